/- Parts of the proof of ScaleChanges (as AIM.md's row tells), at every input, with no further conditions. -/
import Derived.Test.YtpoaaoihkhdijaaGreatDoorHZAN
import Derived.Shelf.Strconv.Itoa4
import Derived.Ground.NamesProg
import Derived.Lib.ItoaMem
import Derived.Shelf.Strings.Builder1
set_option linter.all false
set_option maxRecDepth 100000
set_option maxHeartbeats 0
section
namespace Go.Proofs
open Go.Shelf
def Tryz.IG:Go.Shelf.Ren:=⟨λ|171=>302|243=>330|246=>351|283=>352|284=>353|285=>354|286=>355|129=>285|317=>370|318=>371|319=>372|320=>373|337=>380|338=>381|n=>n,λ|3=>3|9=>9|2=>2|4=>4|171=>410|0=>0|53=>311|37=>372|5=>5|173=>412|212=>429|51=>308|20=>20|213=>430|46=>225|232=>441|233=>442|n=>n,λ|17=>5|18=>6|19=>7|n=>n⟩
theorem Tryz.Ud:Go.Proofs.LaysM.n171 Tryz.prog Tryz.IG where
 mixed:=by kernel_rfl
 f129:=Tryz.func285.trans<|congrArg some<|by kernel_rfl
 f171:=Tryz.func302.trans<|congrArg some<|by kernel_rfl
 f243:=Tryz.func330.trans<|congrArg some<|by kernel_rfl
 f246:=Tryz.func351.trans<|congrArg some<|by kernel_rfl
 f283:=Tryz.func352.trans<|congrArg some<|by kernel_rfl
 f284:=Tryz.func353.trans<|congrArg some<|by kernel_rfl
 f285:=Tryz.func354.trans<|congrArg some<|by kernel_rfl
 f286:=Tryz.func355.trans<|congrArg some<|by kernel_rfl
 f317:=Tryz.func370.trans<|congrArg some<|by kernel_rfl
 f318:=Tryz.func371.trans<|congrArg some<|by kernel_rfl
 f319:=Tryz.func372.trans<|congrArg some<|by kernel_rfl
 f320:=Tryz.func373.trans<|congrArg some<|by kernel_rfl
 f337:=Tryz.func380.trans<|congrArg some<|by kernel_rfl
 f338:=Tryz.func381.trans<|congrArg some<|by kernel_rfl
 t0:=Tryz.underlying0
 a0:=Tryz.isAgg0
 z0:=Tryz.sizeOf0
 v0:=Tryz.zeroValue0
 t2:=Tryz.underlying2
 a2:=Tryz.isAgg2
 z2:=Tryz.sizeOf2
 v2:=Tryz.zeroValue2
 t3:=Tryz.underlying3
 a3:=Tryz.isAgg3
 z3:=Tryz.sizeOf3
 v3:=Tryz.zeroValue3
 t4:=Tryz.underlying4
 a4:=Tryz.isAgg4
 z4:=Tryz.sizeOf4
 v4:=Tryz.zeroValue4
 t5:=Tryz.underlying5
 a5:=Tryz.isAgg5
 z5:=Tryz.sizeOf5
 v5:=Tryz.zeroValue5
 t9:=Tryz.underlying9
 a9:=Tryz.isAgg9
 z9:=Tryz.sizeOf9
 v9:=Tryz.zeroValue9
 t20:=Tryz.underlying20
 a20:=Tryz.isAgg20
 z20:=Tryz.sizeOf20
 v20:=Tryz.zeroValue20
 t37:=Tryz.underlying372
 a37:=Tryz.isAgg372
 z37:=Tryz.sizeOf372
 v37:=Tryz.zeroValue372
 t46:=Tryz.underlying225
 a46:=Tryz.isAgg225
 z46:=Tryz.sizeOf225
 v46:=Tryz.zeroValue225
 t51:=Tryz.underlying308
 a51:=Tryz.isAgg308
 z51:=Tryz.sizeOf308
 v51:=Tryz.zeroValue308
 t53:=Tryz.underlying311
 a53:=Tryz.isAgg311
 z53:=Tryz.sizeOf311
 v53:=Tryz.zeroValue311
 t171:=Tryz.underlying410
 a171:=Tryz.isAgg410
 z171:=Tryz.sizeOf410
 v171:=Tryz.zeroValue410
 t173:=Tryz.underlying412
 a173:=Tryz.isAgg412
 z173:=Tryz.sizeOf412
 v173:=Tryz.zeroValue412
 t212:=Tryz.underlying429
 a212:=Tryz.isAgg429
 z212:=Tryz.sizeOf429
 v212:=Tryz.zeroValue429
 t213:=Tryz.underlying430
 a213:=Tryz.isAgg430
 z213:=Tryz.sizeOf430
 t232:=Tryz.underlying441
 a232:=Tryz.isAgg441
 z232:=Tryz.sizeOf441
 v232:=Tryz.zeroValue441
 t233:=Tryz.underlying442
 a233:=Tryz.isAgg442
 z233:=Tryz.sizeOf442
 v233:=Tryz.zeroValue442
 g17:=by kernel_rfl
 g18:=by kernel_rfl
 g19:=by kernel_rfl
 i0:=by kernel_rfl
 i2:=by kernel_rfl
 i3:=by kernel_rfl
 i4:=by kernel_rfl
 i5:=by kernel_rfl
 i9:=by kernel_rfl
 i20:=by kernel_rfl
 i37:=by kernel_rfl
 i46:=by kernel_rfl
 i51:=by kernel_rfl
 i53:=by kernel_rfl
 i171:=by kernel_rfl
 i173:=by kernel_rfl
 i212:=by kernel_rfl
 i232:=by kernel_rfl
 i233:=by kernel_rfl
 m17:=by kernel_rfl
 m18:=by kernel_rfl
 m19:=by kernel_rfl
end Go.Proofs
namespace Go.Ai
open Go.Proofs
def LR(w:World)(k:Nat)(os:Array Obj):Go.RowKit.Below w.heap.size w (Sort.grow (w.drewN k) os):=⟨W,W,W,I,λi hi=>by simp[Sort.grow,Array.getElem?_append,hi]⟩
def Uh(n:Int)(l: -(2^63)<=n)(j:n<=9223372036854775807):aM Tryz.prog 302 [.i n] (.s<|Lib.itoa n):=by intro w S o g f hc;obtain⟨y,p,t,r,rfl,q,_,d,rfl,rfl⟩:=hc;obtain⟨_,rfl,rfl⟩:=d;refine vh.BJ (fn:=Tryz.f302) Tryz.func302 W W<|(Any.strconv_Itoa Tryz.Ud n l j w g).mono ?_;rintro e m⟨rfl,k,os,rfl⟩;have c:=LR w k os;exact⟨_,W,S,[],c,λ_ h=>h,λ_ h=>.inl h,λb a=>ae3 (f b a) c.size,by simp[SV.den,Rel,scalar,bs],ae5,I⟩
def decDigits_eq(u:Nat):Lib.decDigits u=decl u 1:=by
 induction u using Nat.strongRecOn with
 |ind u a=>
  rw[Lib.decDigits,cC E];by_cases h:u<10
  ·rw[dif_pos h,show u/10=0 from E,dp,show u%10=u from E];rfl
  rw[dif_neg h,a (u/10) E];have:decl (u/10) 1=decl (u/10) (1-1):=by rw[cC (n:=u/10) (k:=1) E,cC (n:=u/10) (k:=1-1) E]
  rw[this];rfl
def Ui(z:Int):Lib.itoa z=cK z:=by
 unfold Lib.itoa cK;split
 ·rw[decDigits_eq]
 rw[decDigits_eq];congr 1;omega
def Rg(n:Int)(b: -(2^63)<=n)(a:n<=9223372036854775807):aM Tryz.prog 302 [.i n] (.s<|cK n):=by rw[<-Ui];exact Uh n b a
end Go.Ai
end
namespace Go.Ai.Pg
open Go.Proofs Go.Ai Go.Ai.eE
def gQ:bT:=⟨bq,[⟨1,[49]⟩,⟨0,[49]⟩],1,[49],[]⟩
def fJ:gV:=⟨2,[gQ],[1]⟩
def check_1:aL [49]=0:=by decide +kernel
def X5:bV [49]≠0:=by intro h;have a:=fZ check_1;rw[h,AL]at a;simp_all
def Hq:fW 2 gQ=0:=by
 have c:∀k:Int,0<=k->k<2->gu 2 ⟨k,[49]⟩=0:=by intro k e d;unfold gu;rw[if_neg<|by show¬(k<0\/2<=k);omega,if_neg<|by rw[check_1];simp,if_neg X5]
 have b:aK (gu 2) gQ.ah=0:=dK.2 (by
  intro f a;simp[gQ]at a;rcases a with rfl|rfl
  ·simp_all
  exact c 0 fh fh)
 unfold fW;rw[if_neg<|by simp[gQ],if_neg fh,if_neg<|by rw[b];simp];rfl
def F7:az [gQ]=[0]:=by
 have b:cY [gQ] [] 0=0:=by rw[jH fh];rfl
 have a:cY [gQ] [0] 0= -1:=by rw[jH fh,if_neg fh,mV fh]
 show ew [gQ] 2 []=[0];rw[ew,b];show ew [gQ] 1 [0]=[0];rw[ew,a,if_pos fh]
def zr:dT fJ=0:=by
 have hu:aK (fW fJ.n) fJ.aa=0:=dK.2 (by
  intro u h;have:u=gQ:=by simpa[fJ]using h
  subst this;exact Hq)
 unfold dT;rw[if_neg fh,if_neg fh,if_neg<|by rw[hu];simp,if_neg fh,if_neg fh,if_neg fh,if_neg,if_neg<|by show¬(az [gQ]).length<1;rw[F7];decide,if_neg]
 ·rintro⟨u,h,a,-⟩;have:u=gQ:=by simpa[fJ]using h
  subst this;exact absurd a fh
 intro h;refine h λs b a=>?_;have:s=1:=by have:s<2:=a;omega
 subst this;decide
def rr:List fD:=[⟨[48],[50]⟩,⟨[49],[56]⟩]
def pE:fE:=⟨3,5,10,4⟩
def tR:fE:=⟨40,5,10,0⟩
def RS{n:Nat}(h:n<10):decl n 1=[RU n]:=by have e:n/10=0:=E;have a:n%10=n:=E;rw[cC E,e,a,dp];rfl
def aeC:aL [48]=0:=by decide +kernel
def UR:aL [50]=0:=by decide +kernel
def UQ:aL [56]=0:=by decide +kernel
def AJ{s:hO}(n:Nat)(h:n<10)(hc:aL s=0)(he:s=[RU n]):bV s=(n:Rat):=by rw[<-KK,fZ hc,he,KI,RS h]
def Vp:bV [48]=0:=AJ 0 fh aeC W
def FQ:bV [49]=1:=AJ 1 fh check_1 W
def Vo:bV [50]=2:=AJ 2 fh UR W
def Vn:bV [56]=8:=AJ 8 fh UQ W
def Wk:iz ⟨[48],[50]⟩=0:=by unfold iz;rw[Vp,Vo];decide +kernel
def Wj:iz ⟨[49],[56]⟩=0:=by unfold iz;rw[FQ,Vn];decide +kernel
def WN:Gm ⟨[48],[50]⟩=2:=by unfold Gm;rw[Vp,Vo];decide +kernel
def WM:Gm ⟨[49],[56]⟩=8:=by unfold Gm;rw[FQ,Vn];decide +kernel
def BY:abO 2 10=9:=by unfold abO;rw[jJ (e:=9) ⟨by decide +kernel,by decide +kernel⟩];rfl
def ID:abO 8 10=7:=by unfold abO;rw[jJ (e:=7) ⟨by decide +kernel,by decide +kernel⟩];rfl
def Ua:abO 8 5=2:=by unfold abO;rw[jJ (e:=2) ⟨by decide +kernel,by decide +kernel⟩];rfl
def Ku(b:fE)(a:b.s=10):lF rr b=[9,7]:=by unfold lF rr;simp[WN,WM,a,BY,ID]
def Yt:IT rr ⟨1,[49]⟩=8:=by unfold IT;rw[show rr.getD (Int.toNat<|Hi.sh ⟨1,[49]⟩) default=⟨[49],[56]⟩from W,WM,FQ];decide +kernel
def Ys:IT rr ⟨0,[49]⟩=2:=by unfold IT;rw[show rr.getD (Int.toNat<|Hi.sh ⟨0,[49]⟩) default=⟨[48],[50]⟩from W,WN,FQ];decide +kernel
theorem Yr(b:fE)(a:b.d=5):tM rr b gQ 0=2:=by unfold tM;rw[show gQ.ah.getD 0 default=⟨1,[49]⟩from W,Yt,if_pos ⟨W,W⟩,a,Ua]
def in_1(b:fE)(a:b.s=10):tM rr b gQ 1=9:=by unfold tM;rw[show gQ.ah.getD 1 default=⟨0,[49]⟩from W,Ys,if_neg I,a,BY]
def Ld(b:fE)(a:b.d=5)(hs:b.s=10):lS rr b fJ.aa=[[2,9]]:=by show[[tM rr b gQ 0,tM rr b gQ 1]]=_;rw[Yr b a,in_1 b hs]
def nO:rA fJ:=⟨fh,λu h=>by
 have:u=gQ:=by simpa[fJ]using h
 subst this;exact⟨fh,λf a=>by
  have:f.dZ=[49]:=by simp[gQ]at a;rcases a with rfl|rfl<;>rfl
  rw[this];exact(by unfold ct;decide:ct [49]),(by unfold ct;decide:ct [49]),fh,λs hs=>by simp[gQ]at hs⟩,fh⟩
def yg:∀s∈rr,ct s.lo/\ct s.hi:=by intro s hs;simp[rr]at hs;rcases hs with rfl|rfl<;>exact⟨by unfold ct;decide,by unfold ct;decide⟩
def AN(b:fE)(a:J9 b):ik fJ rr b=0:=by
 have d:jR fJ.n rr=0:=by
  refine dK.2 λs hs=>?_;simp[rr]at hs;rcases hs with rfl|rfl
  ·exact Wk
  exact Wj
 have c:abv fJ rr=0:=by unfold abv;rw[if_neg<|by rw[zr];simp];exact d
 unfold ik;rw[if_neg<|by rw[c];simp];exact Ab.2 a
def UZ:J9 pE:=⟨fh,fh,fh,fh⟩
def Xo:J9 tR:=⟨fh,fh,fh,fh⟩
def Xg:List iV:=[⟨0,-1,9⟩,⟨-1,0,40⟩,⟨1,-1,7⟩,⟨-1,1,40⟩,⟨-1,-1,42⟩,⟨1,-1,6⟩,⟨-1,1,2⟩,⟨1,-1,8⟩,⟨-1,1,41⟩,⟨1,0,3⟩,⟨0,1,5⟩]
def YI:List iV:=[⟨0,-1,9⟩,⟨-1,0,40⟩,⟨1,-1,7⟩,⟨-1,1,40⟩,⟨-1,-1,42⟩,⟨1,-1,2⟩,⟨-1,1,-2⟩,⟨1,-1,-29⟩,⟨-1,1,78⟩,⟨1,0,-38⟩,⟨0,1,38⟩]
def XX(b:fE)(hs:b.s=10):Px rr b 0=9:=by unfold Px;rw[show rr.getD 0 default=⟨[48],[50]⟩from W,WN,hs,BY]
def XW(b:fE)(hs:b.s=10):Px rr b 1=7:=by unfold Px;rw[show rr.getD 1 default=⟨[49],[56]⟩from W,WM,hs,ID]
def R2(b:fE)(a:b.d=5)(hs:b.s=10):iv 2 fJ.aa rr b=
 [⟨0,-1,9⟩,⟨-1,0,40⟩,⟨1,-1,7⟩,⟨-1,1,40⟩,⟨-1,-1,2+40⟩,⟨1,-1,2+b.g⟩,⟨-1,1,b.g-2⟩,⟨1,-1,9+2-b.c⟩,⟨-1,1,40+b.c-2⟩,⟨1,0,b.g+2-b.c⟩,⟨0,1,b.g-2+b.c⟩]:=by
 show([⟨0,-1,Px rr b 0⟩,⟨-1,0,40⟩,⟨1,-1,Px rr b 1⟩,⟨-1,1,40⟩]:List iV)++(ry 2 rr b gQ++[])=_;have hu:ry 2 rr b gQ=CU rr b gQ:=if_pos W;rw[hu];unfold CU;rw[XX b hs,XW b hs,Yr b a,in_1 b hs];rfl
def Nj:iv 2 fJ.aa rr pE=Xg:=(R2 pE W W).trans W
def UJ:iv 2 fJ.aa rr tR=YI:=(R2 tR W W).trans W
def xP:SV:=bh fJ
def xR:SV:=.bA false 2 default dX rr
def Ma(b:fE)(o:Bool):SV:=.agg [.i fJ.n,.bA false 5 default dQ fJ.aa,.ints .i64 false fJ.ints,.bA false 2 default dX rr,.i b.c,.i b.d,.i b.s,.i b.g,.ints .i64 o [9,7],.bA o 1 [] (SV.ints .i64 o) [[2,9]]]
def GI:rr.length<2^40:=fh
def QF(b:fE)(c:J9 b)(a:b.d=5)(hs:b.s=10):aM Tryz.prog 65 [xP,xR,dz b] (.bW [.box true<|Ma b true,.i 0]):=by have h:=F9 fJ nO rr yg GI b<|AN b c;rw[Ku b hs,Ld b a hs]at h;exact h
def Q5:aM Tryz.prog 16 [xP,xR,dz pE] (.bW [.ints .i64 false [9,7],.bA false 1 [] (SV.ints .i64 false) [[2,9]],.i 0]):=by have h:=OI fJ nO rr yg GI pE<|AN pE UZ;rw[Ku pE W,Ld pE W W]at h;exact h
def UH:aM Tryz.prog 58 [xP,xR,dz pE] (.bW [.bA true 3 default iU Xg,.i 0]):=by have h:=RZ fJ nO rr yg GI pE<|AN pE UZ;rw[show fJ.n.toNat=2 from W,Nj]at h;exact h
def wU(b:fE)(c:J9 b)(a:b.d=5)(hs:b.s=10):aM Tryz.prog 72 [.box false<|Ma b false] (.bW [.bA true 3 default iU<|iv 2 fJ.aa rr b,.i 2]):=by have v:=nm<|AN b c;have h:=qP fJ nO 2 W fh v.aa v.val rr b v.rg v.bn;rw[Ku b hs,Ld b a hs]at h;exact h
def hW:Tryz.prog.funcs.toList.all Ie=true:=aW
def ue(f:FuncId)(t:List SV->Option SV)(T:pW):pW:=λg a=>match Nat.beq g f with
 |true=>t a
 |false=>T g a
def ib{P:Program}{f:FuncId}{t:List SV->Option SV}{T:pW}(h:∀xs r,t xs=some r->aM P f xs r)(b:∀g xs r,T g xs=some r->aM P g xs r):∀g xs r,ue f t T g xs=some r->aM P g xs r:=by
 intro g xs r e;unfold ue at e;split at e
 ·rename_i a;rw[afb a];exact h _ _ e
 simp_all
def LA:Nat->Nat->Nat->hO->hO
 |0,_,_,t=>t
 |m+1,n,k,t=>match eX (Nat.beq n 0) (Nat.beq k 0)with
  |true=>t
  |false=>LA m (n/10) (k-1)<|RU (n%10)::t
def GO:∀m n k t,n<10^m->k<=m->LA m n k t=decl n k++t
 |0,n,k,t,h,c=>by
  have f:n=0:=by simp at h;omega
  have d:k=0:=E;subst f;subst d;rw[dp];rfl
 |m+1,n,k,t,h,c=>by
  unfold LA;split
  ·rename_i e;rw[aO]at e;rw[afb e.1,afb e.2,dp];rfl
  rename_i e;have hn:¬(n=0/\k=0):=λ⟨a,b⟩=>by subst a;subst b;simp[eX]at e
  rw[GO m (n/10) (k-1) _ (by rw[afu]at h;omega) E,cC hn,aeZ];rfl
def WT:Int->hO
 |.ofNat n=>LA 30 n 1 []
 |.negSucc n=>45::LA 30 (n+1) 1 []
def MI{z:Int}(c: -(2^63)<=z)(b:z<=9223372036854775807):WT z=cK z:=by
 have a:(9223372036854775809:Nat)<10^30:=fh;unfold cK;cases z with
 |ofNat n=>have hn:=agq (by have:Int.ofNat n=(n:Int):=W;omega:n<9223372036854775809) a;show LA 30 n 1 []=_;rw[GO 30 n 1 [] hn fh,afN];rfl
 |negSucc n=>have hn:=agq (E:n+1<9223372036854775809) a;rw[if_pos E];show 45::LA 30 (n+1) 1 []=_;rw[GO 30 (n+1) 1 [] hn fh,afN];rfl
def XF(a b:Int):Bool:=match b-a with
 |.ofNat (_+1)=>true
 |_=>false
def AQ{a b:Int}(h:XF a b=true):a<b:=by
 unfold XF at h;split at h
 ·rename_i n e;have:b-a=((n:Int)+1):=e;omega
 cases h
def Lb:List SV->Option SV
 |[.n .u64<|.ofNat x,.n .u64<|.ofNat y,.n .u64<|.ofNat c]=>match Nat.ble c 1 with
  |true=>some (.bW [.n .u64<|.ofNat<|(x+y+c)%2^64,.n .u64<|.ofNat<|(x+y+c)/2^64])
  |false=>none
 |_=>none
def K8:List SV->Option SV
 |[.n .u64<|.ofNat x,.n .u64<|.ofNat y,.n .u64<|.ofNat c]=>match Nat.ble c 1 with
  |true=>some (.bW [.n .u64<|.ofNat<|(x+2^64-y-c)%2^64,.n .u64<|.ofNat<|match Nat.blt x (y+c)with|true=>1|false=>0])
  |false=>none
 |_=>none
def K9:List SV->Option SV
 |[.n .u64<|.ofNat x,.n .u64<|.ofNat y]=>match eX (Nat.blt x (2^64)) (Nat.blt y (2^64))with
  |true=>some (.bW [.n .u64<|.ofNat<|x*y/2^64,.n .u64<|.ofNat<|x*y%2^64])
  |false=>none
 |_=>none
def La:List SV->Option SV
 |[.s s,.n .u8<|.ofNat c]=>match Nat.beq c 47 with
  |true=>some (.i<|P5 s)
  |false=>none
 |_=>none
def Rb:List SV->Option SV
 |[.n .i64 z]=>match eX (XF (-9223372036854775809) z) (XF z (2^63))with
  |true=>some (.s<|WT z)
  |false=>none
 |_=>none
def Q9:List SV->Option SV
 |[.agg [.n .i64 z,.nil]]=>match eX (XF (-9223372036854775809) z) (XF z (2^63))with
  |true=>some (.s<|WT z)
  |false=>none
 |_=>none
def UD:hO->Bool
 |[]=>true
 |c::s=>match eX (Nat.ble 48 c.toNat) (Nat.ble c.toNat 57)with
  |true=>UD s
  |false=>false
def Jz:∀{s:hO},UD s=true->dh s
 |[],_=>λc hc=>by cases hc
 |c::s,h=>by
  unfold UD at h;split at h
  ·rename_i e;rw[aO]at e;intro x a;rcases adZ.1 a with rfl|a
   ·simp_all
   exact Jz h x a
  cases h
def Re:List SV->Option SV
 |[.s<|c::s]=>match eX (UD<|c::s) (Nat.ble (len s) 17)with
  |true=>some (.bW [.n .i64<|.ofNat<|cJ<|c::s,.c .nilIface])
  |false=>none
 |_=>none
def WR:List SV->Option SV
 |[.ints .i64 false [x],.n .i64<|.ofNat n]=>match eX (Nat.ble 1 n) (Nat.blt n 1048576)with
  |true=>some (.ints .i64 true<|List.replicate n x)
  |false=>none
 |_=>none
def ON(xs:List SV)(r:SV)(h:Lb xs=some r):aM Tryz.prog 287 xs r:=by
 unfold Lb at h;split at h
 ·split at h
  ·rename_i x y c _ e;cases h;exact fA x y c<|ae4 e
  cases h
 cases h
def OK(xs:List SV)(r:SV)(h:K8 xs=some r):aM Tryz.prog 289 xs r:=by
 unfold K8 at h;split at h
 ·split at h
  ·rename_i x y c _ e;cases h;have hh:=pd x y c<|ae4 e;have b:(match Nat.blt x (y+c)with|true=>1|false=>0)=if x<y+c then 1 else 0:=by
    by_cases g:x<y+c
    ·rw[if_pos g];have:Nat.blt x (y+c)=true:=Nat.ble_eq_true_of_le g;rw[this]
    rw[if_neg g];have:Nat.blt x (y+c)=false:=by
     cases a:Nat.blt x (y+c)with
     |false=>rfl
     |true=>exact absurd (ae4 a) g
    rw[this]
   rw[b];exact hh
  cases h
 cases h
def OL(xs:List SV)(r:SV)(h:K9 xs=some r):aM Tryz.prog 233 xs r:=by
 unfold K9 at h;split at h
 ·split at h
  ·rename_i x y _ e;cases h;rw[aO]at e;exact kg x y (ae4 e.1)<|ae4 e.2
  cases h
 cases h
def OM(xs:List SV)(r:SV)(h:La xs=some r):aM Tryz.prog 346 xs r:=by
 unfold La at h;split at h
 ·split at h
  ·rename_i s c _ e;cases h;rw[afb e];exact Ca s
  cases h
 cases h
def Ra(xs:List SV)(r:SV)(h:Rb xs=some r):aM Tryz.prog 302 xs r:=by
 unfold Rb at h;split at h
 ·split at h
  ·rename_i z _ e;cases h;rw[aO]at e;have b:=AQ e.1;have a:=AQ e.2;rw[MI E E];exact Rg z E E
  cases h
 cases h
def Q8(xs:List SV)(r:SV)(h:Q9 xs=some r):aM Tryz.prog 265 xs r:=by
 unfold Q9 at h;split at h
 ·split at h
  ·rename_i z _ e;cases h;rw[aO]at e;have b:=AQ e.1;have a:=AQ e.2;rw[MI E E];refine bS Tryz.func265 W<|bP W W (Rg z E E) W<|bN W W
  cases h
 cases h
def Rc(xs:List SV)(r:SV)(h:Re xs=some r):aM Tryz.prog 254 xs r:=by
 unfold Re at h;split at h
 ·split at h
  ·rename_i c s _ e;cases h;rw[aO]at e;have hl:=ae4 e.2;rw[fH]at hl;exact Sq (c::s) (Jz e.1) I (by simp;omega)
  cases h
 cases h
def Uf(xs:List SV)(r:SV)(h:WR xs=some r):aM Tryz.prog 64 xs r:=by
 unfold WR at h;split at h
 ·split at h
  ·rename_i x n _ e;cases h;rw[aO]at e;exact adA x n (ae4 e.1)<|ae4 e.2
  cases h
 cases h
def T0:pW:=ue 287 Lb<|ue 289 K8<|ue 233 K9<|ue 346 La<|ue 302 Rb<|ue 265 Q9<|ue 254 Re<|ue 64 WR λ_ _=>none
def gU:∀g xs r,T0 g xs=some r->aM Tryz.prog g xs r:=ib ON<|ib OK<|ib OL<|ib OM<|ib Ra<|ib Q8<|ib Rc<|ib Uf λ_ _ _ h=>by cases h
def iA{T:pW}(a:∀g xs r,T g xs=some r->aM Tryz.prog g xs r){B:List Nat}{g:FuncId}{xs:List SV}{r:SV}(h:Th (exec Tryz.prog tt T B 100000) Tryz.prog tt T g xs=some r):aM Tryz.prog g xs r:=Bc hA hW a (qL hA hm hW a 100000) h
def xv:SV:=.agg [.i 1,.nil,.i 2,.nil,.i 4,.nil,.i 8,.nil,.i 16,.nil,.i 32,.nil,.i 64,.nil,.i 128,.nil,.i 256,.nil,.i 512,.nil,.i 1024,.nil,.i 2048,.nil,.i 4096,.nil,.i 8192,.nil,.i 16384,.nil,.i 32768,.nil,.i 65536,.nil,.i 131072,.nil,.i 262144,.nil,.i 524288,.nil,.i 1048576,.nil,.i 2097152,.nil,.i 4194304,.nil,.i 8388608,.nil,.i 16777216,.nil,.i 33554432,.nil,.i 67108864,.nil,.i 134217728,.nil,.i 268435456,.nil,.i 536870912,.nil,.i 1073741824,.nil,.i 2147483648,.nil,.i (2^32),.nil,.i 8589934592,.nil,.i 17179869184,.nil,.i 34359738368,.nil,.i 68719476736,.nil,.i 137438953472,.nil,.i 274877906944,.nil,.i 549755813888,.nil,.i 1099511627776,.nil,.i 2199023255552,.nil,.i 4398046511104,.nil,.i 8796093022208,.nil,.i 17592186044416,.nil,.i 35184372088832,.nil,.i 70368744177664,.nil,.i 140737488355328,.nil,.i 281474976710656,.nil,.i 562949953421312,.nil,.i 1125899906842624,.nil,.i 2251799813685248,.nil,.i 4503599627370496,.nil,.i 9007199254740992,.nil,.i 18014398509481984,.nil,.i 36028797018963968,.nil,.i 72057594037927936,.nil,.i 144115188075855872,.nil,.i 288230376151711744,.nil,.i 576460752303423488,.nil,.i 1152921504606846976,.nil,.i 2305843009213693952,.nil,.i 4611686018427387904,.nil,.i 1,.ints .u64 false [2^63],.i 1,.ints .u64 false [0,1],.i 1,.ints .u64 false [0,2],.i 1,.ints .u64 false [0,4],.i 1,.ints .u64 false [0,8],.i 1,.ints .u64 false [0,16],.i 1,.ints .u64 false [0,32],.i 1,.ints .u64 false [0,64],.i 1,.ints .u64 false [0,128],.i 1,.ints .u64 false [0,256],.i 1,.ints .u64 false [0,512],.i 1,.ints .u64 false [0,1024],.i 1,.ints .u64 false [0,2048],.i 1,.ints .u64 false [0,4096],.i 1,.ints .u64 false [0,8192],.i 1,.ints .u64 false [0,16384],.i 1,.ints .u64 false [0,32768],.i 1,.ints .u64 false [0,65536]]
def Fz:aM Tryz.prog 95 [] xv:=iA gU (B:=[]) aW
def Yy(x:List It×aU)(rs:List ResultVar):Option SV:=match x.1 with
 |[]=>match iB tt x.2 rs with
  |some a=>some (vK a)
  |none=>none
 |_::_=>none
def RP{N:Nat}{R:Option Nat->Prop}{k:List It}{l:aU}{T:pW}(c:∀g xs r,T g xs=some r->aM Tryz.prog g xs r){B:List Nat}{rs:List ResultVar}{r:SV}(h:Yy (exec Tryz.prog tt T B 100000 N k l) rs=some r):AK R Tryz.prog N (Pu Tryz.prog rs r) k l:=by
 refine qL (B:=B) hA hm hW c 100000 N R _ k l ?_;unfold Yy at h;generalize exec Tryz.prog tt T B 100000 N k l=x at h;obtain⟨a,d⟩:=x;cases a with
 |cons i a=>cases h
 |nil=>
  simp only at h;split at h
  ·rename_i xs b;simp at h;exact aE b<|ar.of_eq h
  cases h
def xS:SV:=.agg [.ints .i64 false [9,6],.row false 1 [.ints .i64 false [2,7]]]
def xU(c:SV):SV:=.agg [.s bq,.row false 2 [.agg [.i 1,.s [49]],.agg [.i 0,.s [49]]],.i 1,.s [49],c]
def ZR(c:SV):SV:=.agg [.i 2,.row false 5 [xU c],.ints .i64 false [1]]
def xQ:SV:=ZR<|.strs false []
def xN:SV:=ZR .nil
def Ft:aM Tryz.prog 116 [xQ,xS] (.fn (.func 196) [] [.box false xQ,.box false xS]):=by
 refine bS Tryz.func116 W<|cx 1 [(2,.box true xQ),(3,.box true xS)] True ?_ λ_=>?_
 ·refine r0 W<|gm U
 refine oN (r:=2) (p:=[]) W W U<|oN (r:=3) (p:=[]) W W U<|bN W W
def xV:Nat->SV
 |0=>.agg [.i 0,.i 0,.i 2,.i 6]
 |_=>.agg [.i 0,.i 1,.i 7,.i 9]
def A6(C:Value->Prop)(J:Nat->tD)(b:∀v,C v->∀k,k<2->Yields Tryz.prog (J k) (J<|k+1) (aB [xV k]) true v):
 lp Tryz.prog 196 [.abs<|J 0] [.pv C,.box false xQ,.box false xS] [.abs<|J 2] (.bW []):=by
 refine sE (fn:=Tryz.f196) Tryz.func196 W W W W W<|r0 W<|gR<|bQ W W (λ_=>?_) λg=>absurd fh g;refine r1 W (aP W)<|gR<|bQ W W (λ_=>?_) λg=>absurd fh g;refine r1 W (aP W)<|PD W W U (λv a=>b v a 0 fh) W<|k0 W aW<|ni W W W (λg=>absurd g fh) λ_=>?_;refine r1 W (aP W)<|gR<|bQ W W (λ_=>?_) λg=>absurd fh g;refine r1 W (aP W)<|PD W W U (λv a=>b v a 1 fh) W<|k0 W aW<|ni W W W (λg=>absurd g fh) λ_=>?_;refine r1 W (aP W)<|gR<|bQ W W (λg=>absurd g fh) λ_=>?_;refine r1 W (aP W)<|gR<|bQ W W (λg=>absurd g fh) λ_=>?_;refine r0 W<|SN [(1000000,.abs<|J 2)] ⟨W,U⟩ W U ⟨G,U⟩
def fq(n d:Int):SV:=.agg [.i n,.nil,.i d,.nil]
def Vs:aM Tryz.prog 96 [xv,.i<|-4] (fq 1 16):=iA gU (B:=[]) aW
def Vt:aM Tryz.prog 96 [xv,.i<|-2] (fq 1 4):=iA gU (B:=[]) aW
def Rz:aM Tryz.prog 97 [.s [49]] (fq 1 1):=iA gU (B:=[]) aW
def WI:aM Tryz.prog 98 [fq 1 16,fq 1 1] (fq 1 16):=iA gU (B:=[]) aW
def Yg:aM Tryz.prog 98 [fq 1 4,fq 1 1] (fq 1 4):=iA gU (B:=[]) aW
def gY:Nat->SV
 |0=>.row true 1 [.nil]
 |1=>.row true 1 [.row true 4 [fq 1 16]]
 |_=>.row true 1 [.row true 4 [fq 1 16,fq 1 4]]
def Uo:aM Tryz.prog 91 [xQ,xS] (.row false 1 [.row false 4 [fq 1 16,fq 1 4]]):=by
 refine bS Tryz.func91 W<|bP W W Fz W<|r1 W (aP W)<|bG W Ft W<|r0 W<|Bv [2,5,6] [2,5,6] 2 2 (λk=>[xV k]) (λk=>[.box true xQ,.box true xv,.box true<|gY k]) (λ_=>true) (λ_=>none) (.bW [])
  rfl W W W W Tryz.func196 W W W W W W (λ_ _=>rfl) (λ_=>rfl) ?_ W W (λk _ h=>rfl) (λC J d=>A6 C J λv e k a=>d v e k a λ_ _=>rfl) ?_ ?_ ?_
 ·intro k a z b;simp only[adZ,afY,or_false]at b;rcases b with rfl|rfl|rfl
  ·rfl
  ·rfl
  match k,a with
  |0,_=>rfl
  |1,_=>rfl
 ·intro k a _
  match k,a with
  |0,_=>refine r0 W<|rH<|r1 W (aP W)<|bH W Vs W<|r1 W (aP W)<|bH W Rz W<|bO W W WI W<|k1 W aW (aP W)<|zA [(1000000,.box true xQ),(1000001,.box true xv),(1000002,.box true<|gY 1)] W W ⟨⟨W,W,.refl _⟩,⟨W,W,.refl _⟩,⟨W,W,.refl _⟩,U⟩ ⟨G,G,G,U⟩
  |1,_=>refine r0 W<|rH<|r1 W (aP W)<|bH W Vt W<|r1 W (aP W)<|bH W Rz W<|bO W W Yg W<|k1 W aW (aP W)<|zA [(1000000,.box true xQ),(1000001,.box true xv),(1000002,.box true<|gY 2)] W W ⟨⟨W,W,.refl _⟩,⟨W,W,.refl _⟩,⟨W,W,.refl _⟩,U⟩ ⟨G,G,G,U⟩
 ·intro _;refine bN W W
 intro c f;simp at f
def Z8:SV:=.row false 3 (YI.map iU)
def wT:aM Tryz.prog 72 [.box false<|Ma tR false] (.bW [Z8,.i 2]):=by have h:=wU tR Xo W W;rw[UJ]at h;exact h.shr.same W W
def N8:aM Tryz.prog 23 [xQ,xR,dz tR,.ints .i64 false [7,6]] (.i 0):=by refine bS Tryz.func23 W<|bP W W ((QF tR Xo W W).same W W) W<|bQ W W (λg=>absurd W g) λ_=>?_;refine bP W W (wT.same W W) W<|Qr 7 W U<|oN (r:=11) (p:=[]) W W U<|RP gU (B:=[]) aW
def Ml:aM Tryz.prog 94 [xQ,xS] (.i 0):=iA gU (B:=[]) aW
def zW:aM Tryz.prog 115 [xQ,xS,dz pE] (.b false):=iA gU (B:=[]) aW
def Wy:aM Tryz.prog 145 [.i<|-4,.i<|-4,.i 4] (.b false):=(xK _ _ _).same W W
def Wz:aM Tryz.prog 145 [.i<|-2,.i<|-4,.i 4] (.b false):=(xK _ _ _).same W W
def UP:aM Tryz.prog 66 [.box false<|Ma pE false,xS] (.i 0):=by
 refine bS Tryz.func66 W<|bO W W (Ml.same W W) W<|k0 W aW<|gb W (λg=>absurd W g) λ_=>?_;refine r0 W<|gR<|bQ W W (λ_=>?_) λg=>absurd fh g;refine r1 W (aP W)<|gb W (λg=>absurd g fh) λ_=>?_;refine r1 W (aP W)<|gR<|bQ W W (λ_=>?_) λg=>absurd fh g;refine r1 W (aP W)<|gb W (λg=>absurd g fh) λ_=>?_;refine r1 W (aP W)<|gR<|bQ W W (λg=>absurd g fh) λ_=>?_;refine bO W W (Ft.same W W) W<|k0 W aW<|Bv [2,8] [2,8] 2 2 (λk=>[xV k]) (λ_=>[.box true<|.box false<|Ma pE false,.box true<|.b false]) (λ_=>true) (λ_=>none) (.bW [])
  rfl W W W W Tryz.func196 W W W W W W (λ_ _=>rfl) (λ_=>rfl) ?_ W W (λk _ h=>rfl) (λC J d=>A6 C J λv e k a=>d v e k a λ_ _=>rfl) ?_ ?_ ?_
 ·intro k a z b;simp only[adZ,afY,or_false]at b;rcases b with rfl|rfl<;>rfl
 ·intro k a _
  match k,a with
  |0,_=>refine r0 W<|rH<|k1 W aW (aP W)<|gb W (λg=>absurd g fh) λ_=>?_;refine r1 W (aP W)<|bH W Wy W<|k1 W aW (aP W)<|zA [(1000000,.box true<|.box false<|Ma pE false),(1000001,.box true<|.b false)] W W ⟨⟨W,W,.refl _⟩,⟨W,W,.refl _⟩,U⟩ ⟨G,G,U⟩
  |1,_=>refine r0 W<|rH<|k1 W aW (aP W)<|gb W (λg=>absurd g fh) λ_=>?_;refine r1 W (aP W)<|bH W Wz W<|k1 W aW (aP W)<|zA [(1000000,.box true<|.box false<|Ma pE false),(1000001,.box true<|.b false)] W W ⟨⟨W,W,.refl _⟩,⟨W,W,.refl _⟩,U⟩ ⟨G,G,U⟩
 ·intro _;refine bO W W (zW.same W W) W<|RP gU (B:=[]) aW
 intro c f;simp at f
end Go.Ai.Pg
namespace Go.Ai
open Go.Proofs Go.RowKit
def Pc{P:Program}{w:World}{f:FuncId}{fn:Func}{b:Array Value}{R:Value->World->Prop}(l:P.funcs[f]?=some fn)(p:fn.body.isNone=false)(hn:(fn.name== "runtime.NumGoroutine")=false)
 (h:vh P f b w R):Calls P f b w λe w'=>∃v,e=.returned v/\R v w':=by
 have a:(callFunc f b).run P w=.ok (.enter f b) w:=by
  have c:¬fn.name= "runtime.NumGoroutine":=by simpa using hn
  have d:¬fn.body=none:=by grind
  unfold callFunc;simp[l,d,c]
 have j:=h none {dst:=some 0,op:=.move<|.const<|.bool true,type:=0,pos:= "",after:=#[],guard:=none} {tmps:=#[undef],defers:=[]} (λo w'=>∃v,o.tmps=#[v]/\R v w') (λ_ _ _=>False) λv w' i=>⟨v,by simp[Act.put],i⟩;rw[a]at j;have m:=callsIn_wide.1 j.2;refine m.mono λe w' he=>?_;cases e with
 |returned v=>
  obtain⟨k,n,i⟩:=he;have q:v=k:=by simpa[Act.put]using n
  simp_all
 |panicked g=>exact he.elim
 |outgrown=>exact absurd he (by simp[LetsOut])
def aM.tW{P:Program}{f:FuncId}{xs ys:List SV}{r:SV}(h:aM P f ys r)(hl:o6 xs ys):aM P f xs r:=by intro w S a j i hc;obtain⟨n,m,d,c⟩:=hl.cells hc;have e:=List.nil_perm.1 d;have l:=(agS.1 e).1;have k:=(agS.1 e).2;subst l;subst k;exact h w S a j i<|c S (λ_ h=>h) λb g=>by cases g
end Go.Ai
namespace Go.Ai.Pg
open Go.Proofs Go.Ai Go.Ai.eE
def Gh:Ah xN (bh fJ):=
 .agg (.cons (.refl _)<|.cons (.row (d:=default) (e:=dQ) (ys:=[gQ])<|.cons (.agg<|.cons (.refl _)<|.cons (.row (d:=default) (e:=oX) (ys:=gQ.ah)<|.cons (.refl _)<|.cons (.refl _) .nil)<|.cons (.refl _)<|.cons (.refl _)<|.cons (.le W) .nil) .nil)<|.cons (.refl _) .nil)
def Za:SV:=.row false 3 (Xg.map iU)
def GP:aM Tryz.prog 72 [.box false<|Ma pE false] (.bW [Za,.i 2]):=by have h:=wU pE UZ W W;rw[Nj]at h;exact h.shr.same W W
def QD:aM Tryz.prog 107 [xN] (.i 0):=by have h:=zX fJ nO;rw[zr]at h;exact h.tW<|.cons Gh .nil
def QG(b:fE)(c:J9 b)(a:b.d=5)(hs:b.s=10):aM Tryz.prog 65 [xN,xR,dz b] (.bW [.box true<|Ma b true,.i 0]):=(QF b c a hs).tW<|.cons Gh<|.cons (.refl _)<|.cons (.refl _) .nil
def IC:aM Tryz.prog 16 [xN,xR,dz pE] (.bW [.ints .i64 false [9,7],.row false 1 [.ints .i64 false [2,9]],.i 0]):=(Q5.tW<|.cons Gh<|.cons (.refl _)<|.cons (.refl _) .nil).same W W
def Ni:aM Tryz.prog 58 [xN,xR,dz pE] (.bW [Za,.i 0]):=((UH.tW<|.cons Gh<|.cons (.refl _)<|.cons (.refl _) .nil).shr).same W W
def Up:aM Tryz.prog 91 [xN,xS] (.row false 1 [.row false 4 [fq 1 16,fq 1 4]]):=(Uo.same (bs:=[bh fJ,xS]) W W).tW<|.cons Gh<|.cons (.refl _) .nil
def N9:aM Tryz.prog 23 [xN,xR,dz tR,.ints .i64 false [7,6]] (.i 0):=(N8.same (bs:=[bh fJ,xR,dz tR,.ints .i64 false [7,6]]) W W).tW<|.cons Gh<|.cons (.refl _)<|.cons (.refl _)<|.cons (.refl _) .nil
def rk(f:FuncId)(xs:List SV)(r:SV):yK:=(f,xs,r)
def L1:List yK:=[rk 95 [] xv,rk 107 [xN]<|.i 0,rk 65 [xN,xR,dz pE]<|.bW [.box true<|Ma pE true,.i 0],rk 65 [xN,xR,dz tR]<|.bW [.box true<|Ma tR true,.i 0],rk 72 [.box false<|Ma pE false]<|.bW [Za,.i 2],rk 72 [.box false<|Ma tR false]<|.bW [Z8,.i 2],
 rk 66 [.box false<|Ma pE false,xS] (.i 0),rk 91 [xN,xS]<|.row false 1 [.row false 4 [fq 1 16,fq 1 4]]]
def T1:pW:=Zs (BX L1) T0
def YW:Vf Tryz.prog L1:=⟨Fz,QD,QG pE UZ W W,QG tR Xo W W,GP,wT,UP,Up,U⟩
def Fq:∀g xs r,T1 g xs=some r->aM Tryz.prog g xs r:=Ok (λ_ _ _ h=>oC YW h) gU
end Go.Ai.Pg
section
namespace Go.Ai
open Go.Proofs Go.RowKit
variable{P:Program}{w:World}{S:Nat->Prop}
section
variable{o:Oper}{a:Operand}{t:TypeId}
def Fh{args H:List AV}(d:args.length=1)(c:H.length=1){i:Nat}(a:i≠0)(b:i≠1000000):both args H i=⟨.dead,0,0⟩:=by
 by_cases h:i<1000000
 ·rw[gM h,afL E]
 obtain⟨k,rfl⟩:∃k,i=1000000+k:=⟨i-1000000,E⟩;rw[fT E,afL E]
def OH{y:AV}{ti:TI}(s:o.op=.load t a)(n:cu P t=some ti)(g:fits ti y=true):
 SI P o [.box true y] [.bC 1000000 0 0 []] [.box true<|ir y] y:=by
 intro w S V q F hl hc p C;obtain⟨x0,rfl⟩:∃x0,q=[x0]:=by
  match q,hl with
  |[x0],_=>exact⟨x0,W⟩
 have d:=fT (args:=[.bC 1000000 0 0 []]) (H:=[.box true y]) I 0;simp[ahz]at d;have e0:x0=V.v 1000000:=xr (i:=0) E hc W;have v:bg V [x0] 1000000=V.v 1000000:=fb;obtain⟨L,z,F1,X,k1,k2,k3,c,R,Q⟩:=hc.take 1000000 0 [.deref] (y:=y) (av':=.box true<|ir y) E (by rw[d];rfl) (by rw[d];rfl) (by rw[d];rfl);have r:=hc.rel 1000000;rw[an.aA<|by rw[d];rfl,v]at r;obtain⟨b,cs,fz,F2,Y,T,-⟩:=r;rw[v,T]at k1;simp[loc,step1,cm]at k1;subst k1;have O:p a=.pointer (some ⟨b,0,none⟩):=by
  have Z:o.op.operands.toList=[a]:=by rw[s];rfl
  simp_all
 have f:(Instr.loadAt t<|p a).run P w=.ok z w:=by simp[O,Result.andThen_ok];exact kK n k2<|kW g k3
 have m:bg V [z] 0=z:=fb;have D:bg V [z] 1000000=V.v 1000000:=fb;have k:both [y] [.box true<|ir y] 0=⟨y,0,0⟩:=fb;have K:=fT (args:=[y]) (H:=[.box true<|ir y]) I 0;refine⟨.value z,z,w,by simp[execOp,s,f],.inl W,S,X,⟨W,W,W,adp _,λ_ _ _=>rfl⟩,λ_ h=>h,λ_ h=>.inl h,?_⟩;refine⟨λi=>?_,c.nodup,c.du,λi b M=>?_,c.shr⟩
 ·by_cases e:i=0
  ·subst e;have:=c.rel 0;rw[an.aA<|by rw[aH];exact k3.plain]at this;rw[an.aA<|by rw[k];exact k3.plain,k,m];simp_all
  by_cases l:i=1000000
  ·subst l;have:=c.rel 1000000;have J:(1000000:Nat)≠0:=E;have N:(iI (iI (both [.bC 1000000 0 0 []] [.box true y]) 1000000 (ju (both [.bC 1000000 0 0 []] [.box true y] 1000000) [.deref]<|.box true<|ir y)) 0 ⟨y,((both [.bC 1000000 0 0 []] [.box true y]) 0).g1+1,((both [.bC 1000000 0 0 []] [.box true y]) 0).g2⟩ 1000000).av=.box true (ir y):=by
    rfl
   exact this
  have:=c.rel i;have u:=Fh (args:=[.bC 1000000 0 0 []]) (H:=[.box true y]) W W e l;have j:=Fh (args:=[y]) (H:=[.box true<|ir y]) W W e l;rw[an.aA<|by rw[b6 _ _ e,b6 _ _ l,u];rfl,b6 _ _ e,b6 _ _ l,u]at this;rw[an.aA<|by rw[j];rfl,j];exact this
 obtain⟨B,A,x⟩:=c.own i b M;exact⟨.inr B,A,x⟩
def Yk{y:SV}{ti:xk}(d:o.op=.load t a)(c:cu P t=some ti.den)(b:my ti y=true)(hc:y.den.cell=false):mE P o [.box true y] [.bC 1000000 0 0 []] [.box true .dead] y:=by
 have h:=OH (P:=P) (y:=y.den) d c (by rw[je];exact b);have e:ir y.den=.dead:=by unfold ir;rw[hc];rfl
 rw[e]at h;exact h
end
end Go.Ai
end
namespace Go.Ai.Pg
open Go.Proofs Go.Ai Go.Ai.eE
def Z0{R:Option Nat->Prop}{N:Nat}{F:St->Prop}{k:List It}{l:aU}{b:List It}{l':aU}(m:Nat){a:List Pd}{qs:List Bool}(h:run tt [] N m k l [] []=(a,qs,b,l'))(c:Go.Ai.Pa qs=true)(d:bo a)(e:AK R Tryz.prog N F b l'):AK R Tryz.prog N F k l:=(nj hA hm h d c).2.2 e
def Z2(o:Bool):SV:=.row o 2 [.agg [.i 1,.s [49]],.agg [.i 0,.s [49]]]
def UM:aM Tryz.prog 63 [.ints .i64 false [1]] (.ints .i64 true [1]):=iA gU (B:=[]) aW
def UN:aM Tryz.prog 192 [Z2 false] (Z2 true):=iA gU (B:=[]) aW
def UL:aM Tryz.prog 193 [.nil] .nil:=iA gU (B:=[]) aW
def XZ(a b c:hO):SV:=.agg [.i 2,.row true 5 [.agg [.s bq,.row true 2 [.agg [.i 1,.s a],.agg [.i 0,.s b]],.i 1,.s c,.nil]],.ints .i64 true [1],.i 0]
def xU1:SV:=.agg [.s bq,.row true 2 [.agg [.i 1,.s [49]],.agg [.i 0,.s [49]]],.i 1,.s [49],.nil]
def tiU:xk:=match Fw tt 50 with|some t=>t|none=>⟨false,0,0,.dead⟩
def RX:aM Tryz.prog 110 [xN] (.box true<|XZ [49] [49] [49]):=by refine bS Tryz.func110 W<|bO W W UM W<|k0 W aW<|gR<|bQ W W (λ_=>?_) λg=>absurd fh g;refine r1 W (aP W)<|bH W UN W<|bO W W UL W<|Z0 12 W aW U<|Y9 W W W (mE.same (Yk (P:=Tryz.prog) (y:=xU1) (ti:=tiU) W W W W) W W W W) W<|RP gU (B:=[]) aW
end Go.Ai.Pg
namespace Go.Ai
open Go.Proofs Go.RowKit
section
variable{R:Option Nat->Prop}{P:Program}{N:Nat}{V:Hid}{w0 w:World}{S0:Nat->Prop}{a:Act}{base:St}{r p0 Z h:Nat}{Q s:Path}
section
variable{y:AV}{L:Loc}{i sz':Nat}{s':Path}{v:Value}
def SM(base:St)(r p0:Nat)(av:AV)(q:Path):St:=iI (iI base r ⟨av,0,0⟩) p0 ⟨.ptr r 0 0 q,0,0⟩
def vD(base:St)(r p0 Z h:Nat)(av y:AV)(s:Path):St:=iI (iI (iI (iI base r ⟨av,0,0⟩) p0 ⟨.ptr Z 0 0 s,0,0⟩) Z ⟨y,0,0⟩) h ⟨.bC Z 0 0 [],0,0⟩
def Hid.A4(V:Hid)(Z h:Nat)(v:Value):Hid:={V with v:=iI (iI V.v Z v) h v}
structure Names(N r p0 Z h:Nat):Prop where
 n:N<=1000000
 z:1000000<=Z
 hh:1000000<=h
 rp:r≠p0
 rz:r≠Z
 rh:r≠h
 pz:p0≠Z
 ph:p0≠h
 zh:Z≠h
def Ht(hn:Names N r p0 Z h)(b:a.tmps.size=N)(v:Value):tv (V.A4 Z h v) a=iI (iI (tv V a) Z v) h v:=by
 have e:=hn.n;have d:=hn.z;have c:=hn.hh
 funext i
 unfold tv Hid.A4 iI
 grind
def Qd{av:AV}:vD base r p0 Z h av y s h=⟨.bC Z 0 0 [],0,0⟩:=by unfold vD;rw[aH]
def uF(hn:Names N r p0 Z h){av:AV}:vD base r p0 Z h av y s Z=⟨y,0,0⟩:=by unfold vD;rw[b6 _ _ hn.zh,aH]
def Qc(hn:Names N r p0 Z h){av:AV}:vD base r p0 Z h av y s p0=⟨.ptr Z 0 0 s,0,0⟩:=by unfold vD;rw[b6 _ _ hn.ph,b6 _ _ hn.pz,aH]
def FL(hn:Names N r p0 Z h){av:AV}:vD base r p0 Z h av y s r=⟨av,0,0⟩:=by unfold vD;rw[b6 _ _ hn.rh,b6 _ _ hn.rz,b6 _ _ hn.rp,aH]
def FM{av:AV}(e:i≠r)(d:i≠p0)(c:i≠Z)(b:i≠h):vD base r p0 Z h av y s i=base i:=by unfold vD;rw[b6 _ _ b,b6 _ _ c,b6 _ _ d,b6 _ _ e]
def Vk{av:AV}:SM base r p0 av Q p0=⟨.ptr r 0 0 Q,0,0⟩:=by unfold SM;rw[aH]
def Ea(b:r≠p0){av:AV}:SM base r p0 av Q r=⟨av,0,0⟩:=by unfold SM;rw[b6 _ _ b,aH]
def Eb{av:AV}(c:i≠r)(b:i≠p0):SM base r p0 av Q i=base i:=by unfold SM;rw[b6 _ _ b,b6 _ _ c]
def IA{x:Loc}{sz:Nat}(hl:loc w x Q=some L)(hh:holds w L v)(hc:v.cells=#[v]):loc w x (Q++.idx i sz::s')=loc w (.val v) (.idx i sz::s'):=by rw[iq,hl];simp[loc];rw[cN hh hc I];rfl
def Rp{z b:Value}(d:holds w L z)(c:holds w L b)(c1:z.cells=#[z])(c2:b.cells=#[b]):z=b:=by
 cases L with
 |val q=>simp[holds]at d c;rw[d,c]
 |addr g=>have f:=At.cell d c1;have e:=At.cell c c2;simp_all
def N5{sz:Nat}{xs:List AV}{o:AV}{av1:(Value->Prop)->AV}(hn:Names N r p0 Z h)(c:∀i,(base i).av.plain=true)(F4:(base Z).av=.dead)(M:(base h).av=.dead)(hp:o.plain=true)
 (hg:bp o Q=some (.list .own sz xs))(hs:∀C,eJ o Q (.pv C)=some (av1 C))(D2:∃u,bp o (Q++.idx i sz'::s')=some u)
 (hi:o5 N V w0 S0 (SM base r p0 o<|Q++.idx i sz'::s') a w):∃v,o5 N (V.A4 Z h v) w0 S0 (vD base r p0 Z h (av1 (·=v)) (.list .own sz xs)<|.idx i sz'::s') a w:=by
 obtain⟨S,F,ds,hc,hN,E1,Y,X,n,hm⟩:=hi;have hr:=hc.rel r;rw[an.aA<|by rw[Ea hn.rp];exact hp,Ea hn.rp]at hr;obtain⟨L0,v,Fv,l1,l2,l3,-⟩:=Rel.read Q (L:=.val<|tv V a r) hr W hg;have c1:v.cells=#[v]:=cD<|l3.one W;obtain⟨L,z,A,F1,B,k1,k2,k3,k4,k5,k6⟩:=Rel.iI Q (L:=.val<|tv V a r) hr W hg (hs (·=v)) (hc.nodup r) (λb c=>(hc.own r b c).2.2) (by simp[Loc.jS]);rw[l1]at k1;cases k1;have ez:z=v:=Rp k2 l2 (cD<|k3.one W) c1;subst ez;obtain⟨z',j1,-,-,j4⟩:=k6 w S z [] (λ_ h=>h) W (λh=>h) (λ_ _ _=>rfl) (qb k2) (by simp[Rel]);simp[xn]at j4;subst j4;have E2:=hc.nodup r;rw[k4,aeJ,aeJ]at E2;have m:∀b,b∈A++[]++B->b∈F r:=λb c=>by grind
 have f:∀b,b∈F1->b∈F r:=λb c=>by rw[k4];simp[c]
 have F3:∀b,b∈F1->b∉A++[]++B:=λb c p=>by grind
 have F2:F h=[]:=by have:=hc.rel h;rw[an.aA<|by rw[Eb (λe=>hn.rh e.symm) λe=>hn.ph e.symm,M];rfl,Eb (λe=>hn.rh e.symm) λe=>hn.ph e.symm,M]at this;simpa[Rel]using this
 have g:=hc.rel p0;unfold an at g;rw[Vk]at g;simp only[Ea hn.rp]at g;obtain⟨F0,-,-,B0,A0⟩:=g;obtain⟨ad,q1,q2⟩:=A0 U (.inr U) λ_=>D2;rw[IA l1 k2 c1]at q1;have hT:=Ht (V:=V) (a:=a) hn hN z;refine⟨z,S,λi=>if i=r then A++[]++B else if i=Z then F1 else F i,ds,⟨λj=>?_,λj=>?_,λj k x b c=>?_,λj b c=>?_,hc.shr⟩,hN,E1,Y,X,⟨n.os,n.tape,n.output,n.size,n.block⟩,hm.1,λd hd=>?_⟩
 ·rw[hT];by_cases T:j=h
  ·subst T;unfold an;rw[Qd];simp only[uF hn,aH];rw[if_neg λe=>hn.rh e.symm,if_neg λe=>hn.zh e.symm];exact⟨F2,adp _,adp _,λ_ _ _=>⟨.val z,by rw[b6 _ _ hn.zh,aH];rfl,W,I⟩⟩
  by_cases t:j=Z
  ·subst t;rw[an.aA<|by rw[uF hn];rfl,uF hn,if_neg λe=>hn.rz e.symm,if_pos W,b6 _ _ hn.zh,aH];exact k3
  by_cases K:j=p0
  ·subst K;unfold an;rw[Qc hn];simp only[uF hn];rw[if_neg λe=>hn.rp e.symm,if_neg hn.pz,b6 _ _ hn.ph,b6 _ _ hn.pz];exact⟨F0,adp _,adp _,B0,λ_ _ _=>⟨ad,by rw[b6 _ _ hn.zh,aH];exact q1,q2⟩⟩
  by_cases J:j=r
  ·subst J;rw[an.aA<|by rw[FL hn];exact j1.plain,FL hn,if_pos W,b6 _ _ hn.rh,b6 _ _ hn.rz];exact j1
  have hj:=hc.rel j;rw[an.aA<|by rw[Eb J K];exact c j,Eb J K]at hj;rw[an.aA<|by rw[FM J K t T];exact c j,FM J K t T,if_neg J,if_neg t,b6 _ _ T,b6 _ _ t];exact hj
 ·by_cases e:j=r
  ·grind
  simp[e,if_false];by_cases t:j=Z
  ·simp_all
  simp[t,if_false];exact hc.nodup j
 ·by_cases q:j=r
  ·simp only[q,if_true]at c;have hk:k≠r:=λe=>x<|q.trans e.symm;simp[hk,if_false];by_cases H:k=Z
   ·grind
   simp[H,if_false];exact hc.du r k (λe=>hk e.symm) b<|m b c
  simp[q,if_false]at c;by_cases l:j=Z
  ·simp[l,if_true]at c;by_cases H:k=r
   ·simp_all
   have D1:k≠Z:=λe=>x<|l.trans e.symm;simp[H,D1,if_false];exact hc.du r k (λe=>H e.symm) b<|f b c
  simp[l,if_false]at c;by_cases H:k=r
  ·simp only[H,if_true];exactλp=>hc.du j r q b c<|m b p
  simp[H,if_false];by_cases O:k=Z
  ·simp[O,if_true];exactλp=>hc.du j r q b c<|f b p
  simp[O,if_false];exact hc.du j k x b c
 ·by_cases q:j=r
  ·simp only[q,if_true]at c;exact hc.own r b<|m b c
  simp[q,if_false]at c;by_cases l:j=Z
  ·simp[l,if_true]at c;exact hc.own r b<|f b c
  simp[l,if_false]at c;exact hc.own j b c
 obtain⟨D,T,t,K,J,e5⟩:=hm.2 d hd
 grind
def KC{sz:Nat}{ys:List AV}{o av3:AV}(hn:Names N r p0 Z h)(c:∀i,(base i).av.plain=true)(A0:(base Z).av=.dead)(B0:(base h).av=.dead)(hp:o.plain=true)
 (hg:bp o Q=some (.pv (·=v)))(hs:eJ o Q (.list .own sz ys)=some av3)(F3:flat (.idx i sz'::s')=true)
 (hi:o5 N (V.A4 Z h v) w0 S0 (vD base r p0 Z h o (.list .own sz ys)<|.idx i sz'::s') a w):o5 N V w0 S0 (SM base r p0 av3<|Q++.idx i sz'::s') a w:=by
 obtain⟨S,F,ds,hc,hN,Y,T,O,l,hm⟩:=hi;have hT:=Ht (V:=V) (a:=a) hn hN v;rw[hT]at hc;have hr:=hc.rel r;rw[an.aA<|by rw[FL hn];exact hp,FL hn,b6 _ _ hn.rh,b6 _ _ hn.rz]at hr;have M:=hc.rel Z;rw[an.aA<|by rw[uF hn];rfl,uF hn,b6 _ _ hn.zh,aH]at M;have c1:v.cells=#[v]:=cD<|M.one W;obtain⟨L,z,A,F1,B,k1,k2,k3,k4,k5,k6⟩:=Rel.iI Q (L:=.val<|tv V a r) hr W hg hs (hc.nodup r) (λb c=>(hc.own r b c).2.2) (by simp[Loc.jS]);obtain⟨ez,eF⟩:=k3;subst ez;subst eF;obtain⟨z',j1,-,-,j4⟩:=k6 w S z (F Z) (λ_ h=>h) W (λh=>h) (λ_ _ _=>rfl) (qb k2) M;simp[xn]at j4;subst j4;have q:=hc.nodup r;rw[k4,afN,aeJ]at q;have g:∀b,b∈A++F Z++B->b∈F r\/b∈F Z:=λb c=>by grind
 have F0:∀b,b∈F Z->b∉F r:=λb c=>hc.du Z r (λe=>hn.rz e.symm) b c;have F2:(A++F Z++B).Nodup:=by
  rw[aeJ,aeJ];refine⟨⟨q.1,hc.nodup Z,λa ha b c e=>?_⟩,q.2.1,λa ha b c e=>?_⟩
  ·simp_all
  grind
 have E1:F h=[]:=by have:=hc.rel h;unfold an at this;rw[Qd]at this;exact this.1
 have f:=hc.rel p0;unfold an at f;rw[Qc hn]at f;simp only[uF hn]at f;obtain⟨D2,-,-,C,X⟩:=f;obtain⟨ad,q1,q2⟩:=X U (.inr U) λhh=>eW;rw[b6 _ _ hn.zh,aH]at q1;rw[b6 _ _ hn.ph,b6 _ _ hn.pz]at q2 C;refine⟨S,λi=>if i=r then A++F Z++B else if i=Z then[]else F i,ds,⟨λj=>?_,λj=>?_,λj k H b c=>?_,λj b c=>?_,hc.shr⟩,hN,Y,T,O,⟨l.os,l.tape,l.output,l.size,l.block⟩,hm.1,λd hd=>?_⟩
 ·by_cases x:j=p0
  ·subst x;unfold an;rw[Vk];simp only[Ea hn.rp];rw[if_neg λe=>hn.rp e.symm,if_neg hn.pz];exact⟨D2,adp _,adp _,C,λ_ _ _=>⟨ad,by rw[IA k1 k2 c1];exact q1,q2⟩⟩
  by_cases u:j=r
  ·subst u;rw[an.aA<|by rw[Ea hn.rp];exact j1.plain,Ea hn.rp,if_pos W];exact j1
  rw[an.aA<|by rw[Eb u x];exact c j,Eb u x,if_neg u];by_cases p:j=Z
  ·subst p;rw[A0,if_pos W];simp[Rel]
  rw[if_neg p];by_cases K:j=h
  ·subst K;rw[B0,E1];simp[Rel]
  have hj:=hc.rel j;rw[an.aA<|by rw[FM u x p K];exact c j,FM u x p K,b6 _ _ K,b6 _ _ p]at hj;exact hj
 ·by_cases e:j=r
  ·simp_all
  simp[e,if_false];by_cases p:j=Z
  ·simp_all
  simp[p,if_false];exact hc.nodup j
 ·by_cases t:j=r
  ·simp only[t,if_true]at c;have hk:k≠r:=λe=>H<|t.trans e.symm;simp only[hk,if_false];by_cases J:k=Z
   ·simp_all
   simp[J,if_false];rcases g b c with m|m
   ·exact hc.du r k (λe=>hk e.symm) b m
   exact hc.du Z k (λe=>J e.symm) b m
  simp only[t,if_false]at c;by_cases n:j=Z
  ·simp_all
  simp[n,if_false]at c;by_cases J:k=r
  ·simp only[J,if_true];intro D1;rcases g b D1 with m|m
   ·exact hc.du j r t b c m
   exact hc.du j Z n b c m
  simp only[J,if_false];by_cases E2:k=Z
  ·simp_all
  simp[E2,if_false];exact hc.du j k H b c
 ·by_cases t:j=r
  ·simp only[t,if_true]at c;rcases g b c with m|m
   ·exact hc.own r b m
   exact hc.own Z b m
  simp only[t,if_false]at c;by_cases n:j=Z
  ·simp_all
  simp[n,if_false]at c;exact hc.own j b c
 obtain⟨D,K,p,x,u,e5⟩:=hm.2 d hd
 grind
end
end
section
variable{R:Option Nat->Prop}{P:Program}{N:Nat}{F:St->Prop}{k:List It}{l:aU}
section
variable{c:Code}{K:List (Nat×SV)}{ob:List Pd}{Z h p0 r:Nat}{q:Path}{u v y:SV}
def BF:List (Nat×SV)->Bool
 |[]=>true
 |(_,x)::r=>eX x.plain<|BF r
def BK(z:Nat):List (Nat×SV)->Bool
 |[]=>true
 |(i,_)::r=>eX (ne' i z)<|BK z r
def rW:∀{K:List (Nat×SV)},BF K=true->∀i,(dn (sl K) i).av.plain=true
 |[],_,i=>rfl
 |(j,x)::K,h,i=>by
  simp[BF,aO]at h;simp[sl,fR];by_cases e:i=j
  ·subst e;rw[aH];simp[Cl.den,dj];exact h.1
  rw[b6 _ _ e];exact rW h.2 i
def nR{z:Nat}:∀{K:List (Nat×SV)},BK z K=true->(dn (sl K) z).av=.dead
 |[],_=>rfl
 |(j,x)::K,h=>by simp[BK,aO,ne_iff]at h;simp[sl,fR];rw[b6 _ _ λe=>h.1 e.symm];exact nR h.2
def Rn(r p0:Nat)(v:SV)(q:Path)(K:List (Nat×SV)):List (Nat×SV):=(p0,.ptr r 0 0 q)::(r,v)::K
def Ej(r p0 Z h:Nat)(v y:SV)(s:Path)(K:List (Nat×SV)):List (Nat×SV):=(h,.bC Z 0 0 [])::(Z,y)::(p0,.ptr Z 0 0 s)::(r,v)::K
def MN:dn (sl<|Rn r p0 v q K)=SM (dn<|sl K) r p0 v.den q:=by simp[Rn,sl,fR,SM,Cl.den,SV.den]
def H9{s:Path}:dn (sl<|Ej r p0 Z h v y s K)=vD (dn<|sl K) r p0 Z h v.den y.den s:=by simp[Ej,sl,fR,vD,Cl.den,SV.den]
def Xz(L:List (Nat×SV))(σ:St):Prop:=∃l,σ=dn l/\Aj l L
def ad1{a g2:Nat}(b:(gt l p0).v=.ptr r a g2 q)(i:(gt l r).g1=a)(g:(gt l r).g2=g2)(e:gJ (gt l r).v q=some (ob,u))(d:bo ob)(f:Aj l ((r,v)::K))(h:AK R P N F (.code c::k) (sl<|Rn r p0 v q K)):AK R P N F (.code c::k) l:=yE (l':=Rn r p0 v q K) ⟨.inr<|by rw[b];exact⟨W,⟨.inr g,λ_=>⟨_,cF e d⟩⟩,i⟩,f.Hj⟩ h
def TC{g K2:List (Nat×SV)}{Q f:Path}{i b:Nat}{j v3 y2:SV}{v1 v2:(Value->Prop)->SV}{sz x:Nat}{xs ys:List AV}
 (hn:Names N r p0 Z h)(s:eX (BF g) (eX (BK Z g)<|BK h g)=true)(p:eX (BF K2) (eX (BK Z K2)<|BK h K2)=true)(B:j.plain=true)(A:∀C,(v2 C).plain=true)
 (hg:gJ j Q=some ([],y))(S:y.den=.list .own sz xs)(hs:∀C,lu j Q (.pv C)=some ([],v1 C))(L:gJ j (Q++.idx i b::f)=some (ob,u))(D:bo ob)
 (H:∀C,gJ (v2 C) Q=some ([],.pv C))(m:y2.den=.list .own x ys)(z:∀C,lu (v2 C) Q y2=some ([],v3))(J:flat (.idx i b::f)=true)
 (hc:∀C,AK R P N (λ_=>False) [.code c,.inv<|Xz<|Ej r p0 Z h (v2 C) y2 (.idx i b::f) K2]<|sl<|Ej r p0 Z h (v1 C) y (.idx i b::f) g)
 (hk:AK R P N F k (sl<|Rn r p0 v3 (Q++.idx i b::f) K2)):AK R P N F (.code c::k) (sl<|Rn r p0 j (Q++.idx i b::f) g):=by
 rw[aO,aO]at s p;intro V w0 S0 a w O hi;rw[MN]at hi;obtain⟨v,Y⟩:=N5 (av1:=λC=>(v1 C).den) hn (rW s.1) (nR s.2.1) (nR s.2.2) (by rw[dj];exact B) (by rw[cF hg U,S]) (λC=>fG (hs C) U) ⟨_,cF L D⟩ hi.x;have d:=hc (·=v);have d:AW R P N c (iR R P N (λ_=>False) [.inv (Xz (Ej r p0 Z h (v2 (·=v)) y2 (.idx i b::f) K2))]) (dn (sl (Ej r p0 Z h (v1 (·=v)) y (.idx i b::f) g))):=d;rw[H9,S]at d;have M:R (V.A4 Z h v).rd/\kx P (V.A4 Z h v) w0:=⟨O.1,⟨O.2.laid,O.2.apart⟩⟩;have X:=d.x (V:=V.A4 Z h v) (w0:=w0) (S0:=S0) (a:=a) (w:=w) M Y;refine wpIn_mono X λe a' w'⟨t,he,T⟩=>?_;cases e with
 |normal=>obtain⟨l2,rfl,hf⟩:=(he:Xz _ t);have o:=T.fit hf.Hj;rw[H9,m]at o;have n:=KC (av3:=v3.den) hn (rW p.1) (nR p.2.1) (nR p.2.2) (by rw[dj];exact A _) (cF (H _) U) (by rw[<-m];exact fG (z _) U) J o;rw[<-MN]at n;exact⟨_,hk,n⟩
 |_=>exact(he:False).elim
end
end
end Go.Ai
namespace Go.Ai.Pg
open Go.Proofs Go.Ai Go.Ai.eE
def U2:aM Tryz.prog 114 [dz pE] (.i 0):=iA gU (B:=[]) aW
def Tp:aM Tryz.prog 94 [xN,xS] (.i 0):=(Ml.same (bs:=[bh fJ,xS]) W W).tW<|.cons Gh<|.cons (.refl _) .nil
def Uw:aM Tryz.prog 75 [.ints .i64 false [0,0]] (.i 0):=iA gU (B:=[]) aW
def JI:aM Tryz.prog 115 [xN,xS,dz pE] (.b false):=(zW.same (bs:=[bh fJ,xS,dz pE]) W W).tW<|.cons Gh<|.cons (.refl _)<|.cons (.refl _) .nil
def S3:aM Tryz.prog 116 [xN,xS] (.fn (.func 196) [] [.box false xQ,.box false xS]):=(Ft.same (bs:=[bh fJ,xS]) W W).tW<|.cons Gh<|.cons (.refl _) .nil
def Ya:aM Tryz.prog 96 [xv,.i<|-3] (fq 1 8):=iA gU (B:=[]) aW
def T6:aM Tryz.prog 98 [fq 1 16,fq 1 8] (fq 1 128):=iA gU (B:=[]) aW
def xE:hO:=[49,47,49,50,56]
def Qe:hO:=[49,47,52]
def Vm:Nat->SV
 |0=>XZ [49] [49] [49]
 |1=>XZ xE [49] [49]
 |_=>XZ xE Qe [49]
def Qn{T:pW}(a:∀g xs r,T g xs=some r->aM Tryz.prog g xs r){B:List Nat}{g:FuncId}{xs H out:List SV}{r:SV}(h:Qu (exec Tryz.prog tt T B 100000) Tryz.prog tt g xs H=some (out,r)):lp Tryz.prog g H xs out r:=Bs hA hW (qL (B:=B) hA hm hW a 100000) h
def pR(k:Nat):Path:=[.deref,.deref,.at 0 (some 3),.at 1 none,.idx 0 5,.at 1 none,.idx k 2,.at 1 none]
def Td:lp Tryz.prog 111 [.box true<|.box true<|Vm 0] [.bC 1000000 0 0 [.deref],.ptr 1000000 0 0 (pR 0),fq 1 128] [.box true<|.box true<|Vm 1] (.bW []):=Qn gU (B:=[]) aW
def Tc:lp Tryz.prog 111 [.box true<|.box true<|Vm 1] [.bC 1000000 0 0 [.deref],.ptr 1000000 0 0 (pR 1),fq 1 4] [.box true<|.box true<|Vm 2] (.bW []):=Qn gU (B:=[]) aW
def Y2(a:hO):SV:=.row true 5 [.agg [.s bq,.row true 2 [.agg [.i 1,.s xE],.agg [.i 0,.s Qe]],.i 1,.s a,.nil]]
def Y4(C:Value->Prop):SV:=.box true<|.box true<|.agg [.i 2,.pv C,.ints .i64 true [1],.i 0]
def Zt:aM Tryz.prog 96 [xv,.i 6] (fq 64 1):=iA gU (B:=[]) aW
def Tb(C:Value->Prop):lp Tryz.prog 111 [Y4 C,Y2 [49]] [.bC 1000000 0 0 [.deref],.ptr 1000001 0 0 [.idx 0 5,.at 3 none],fq 64 1] [Y4 C,Y2 [54,52]] (.bW []):=Qn gU (B:=[]) aW
def pU:Path:=[.deref,.deref,.at 0 (some 3),.at 1 none]
def kU:List (Nat×SV):=[(6,.box true<|.agg [.i 0,.nil,.nil]),(10,.box true xv),(16,.i 6),(96,.i 1),(97,.i 0)]
theorem I8:aM Tryz.prog 41 [xN,dz pE,xS] (.bW [.agg [.i 2,.row false 5 [.agg [.s bq,.row false 2 [.agg [.i 1,.s xE],.agg [.i 0,.s Qe]],.i 1,.s [54,52],.nil]],.ints .i64 false [1]],.i 0]):=by
 refine enter (fn:=Tryz.f41) Tryz.func41 W W W W ?_;refine r0 W ?_;refine cl W W QD W ?_;refine r0 W ?_;refine br W W W (fun g=>absurd W g) (fun _=>?_);refine r0 W ?_;refine cd W W U2 W ?_;refine r0 W ?_;refine cd W W Tp W ?_;refine r0 W ?_;refine cd W W Uw W ?_;refine k0 W aW ?_;refine br W W W (fun g=>absurd W g) (fun _=>?_);refine r0 W ?_;refine cl W W JI W ?_;refine r0 W ?_;refine cl W W Fz W ?_;refine r0 W ?_;refine cl W W RX W ?_;refine r0 W ?_;refine cl W W S3 W ?_;refine r0 W ?_;refine Bv [3,4,10,11] [3,4,10,11] 2 2 (fun k=>[xV k]) (fun k=>[.box true xN,.box true (dz pE),.box true xv,.box true (.box true (Vm k))]) (fun _=>true) (fun _=>none) (.bW [])
  rfl W W W W Tryz.func196 W W W W W W (fun _ _=>rfl) (fun _=>rfl) ?_ W W (fun k _ h=>rfl) (fun C J d=>A6 C J fun v e k a=>d v e k a fun _ _=>rfl) ?_ ?_ ?_
 ·intro k a z b;simp only[adZ,afY,or_false]at b;rcases b with rfl|rfl|rfl|rfl<;>rfl
 ·intro k a _
  match k,a with
  |0,_=>refine r0 W ?_;refine rH ?_;refine r1 W (aP W) ?_;refine cl W W Vs W ?_;refine r0 W ?_;refine aC 57 W (fun _=>?_) (fun g=>absurd W g);refine r1 W (aP W) ?_;refine br W W W (fun _=>?_) (fun g=>absurd W g);refine r1 W (aP W) ?_;refine cd W W Ya W ?_;refine r0 W ?_;refine cd W W T6 W ?_;refine k1 W aW (aP W) ?_;refine ZL W W (Td.same W W W W) W ?_;refine k0 W aW ?_;exact zA [(1000000,.box true xN),(1000001,.box true (dz pE)),(1000002,.box true xv),(1000003,.box true (.box true (Vm 1)))] W W ⟨⟨W,W,.refl _⟩,⟨W,W,.refl _⟩,⟨W,W,.refl _⟩,⟨W,W,.refl _⟩,trivial⟩ ⟨⟨W,W⟩,⟨W,W⟩,⟨W,W⟩,⟨W,W⟩,trivial⟩
  |1,_=>refine r0 W ?_;refine rH ?_;refine r1 W (aP W) ?_;refine cl W W Vt W ?_;refine r0 W ?_;refine aC 57 W (fun g=>absurd g fh) (fun _=>?_);refine r1 W (aP W) ?_;refine ZL W W (Tc.same W W W W) W ?_;refine k0 W aW ?_;exact zA [(1000000,.box true xN),(1000001,.box true (dz pE)),(1000002,.box true xv),(1000003,.box true (.box true (Vm 2)))] W W ⟨⟨W,W,.refl _⟩,⟨W,W,.refl _⟩,⟨W,W,.refl _⟩,⟨W,W,.refl _⟩,trivial⟩ ⟨⟨W,W⟩,⟨W,W⟩,⟨W,W⟩,⟨W,W⟩,trivial⟩
 ·intro _;refine r0 W ?_;refine gR ?_;refine r0 W ?_;refine br W W W (fun _=>?_) (fun g=>absurd fh g);refine Z0 32 W aW (aP W) ?_;refine EI (Rn 11 15 (.box true (.box true (Vm 2))) (pU++.idx 0 5::[]) kU) ⟨⟨W,W,W⟩,⟨W,W,.refl _⟩,⟨W,W,.refl _⟩,⟨W,W,.refl _⟩,⟨W,W,.refl _⟩,⟨W,W,.refl _⟩,⟨W,W,.refl _⟩,trivial⟩ ?_;refine TC (Z:=1000000) (h:=1000001) (y:=Y2 [49]) (y2:=Y2 [54,52]) (v1:=Y4) (v2:=Y4) (v3:=.box true (.box true (XZ xE Qe [54,52]))) (K2:=kU)
   ⟨fh,fh,fh,fh,fh,fh,fh,fh,fh⟩ W W W (fun _=>rfl) W W (fun _=>rfl) W trivial (fun _=>rfl) W (fun _=>rfl) W (fun C=>?_) ?_
  ·refine r0 W ?_;refine cd W W Zt W ?_;refine r0 W ?_;refine ZL W W ((Tb C).same W W W W) W ?_;refine k0 W aW ?_;exact⟨_,W,⟨⟨W,W,W⟩,⟨W,W,.refl _⟩,⟨W,W,W⟩,⟨W,W,.refl _⟩,⟨W,W,.refl _⟩,⟨W,W,.refl _⟩,⟨W,W,.refl _⟩,⟨W,W,.refl _⟩,⟨W,W,.refl _⟩,trivial⟩⟩
  exact RP gU (B:=[]) aW
 intro c f;simp at f
def H0:aM Tryz.prog 30 [xN,xS] (.bW [.row true 1 [.strs true [[49,47,49,54],[49,47,52]]],.i 0]):=iA Fq (B:=[]) aW
def Mi:aM Tryz.prog 32 [xN,xR,dz pE,xS] (.bW [.strs true [[49],[50]],.i 0]):=iA Fq (B:=[]) aW
def Tq:aM Tryz.prog 17 [xN,xR,dz pE,xS] (.i 0):=iA Fq (B:=[]) aW
def Sf:aM Tryz.prog 15 [xN,xR,dz pE] (.bW [xS,.i 0]):=iA Fq (B:=[]) aW
def Xr:aM Tryz.prog 15 [xN,xR,dz tR] (.bW [.agg [.nil,.nil],.i 24]):=iA Fq (B:=[]) aW
def RI:aM Tryz.prog 59 [.s [57,47,49,48]] (.bW [.i<|-1,.i 0]):=iA Fq (B:=[]) aW
def Uq:SV:=.bW [.agg [.i 2,.row false 5 [.agg [.s bq,.row false 2 [.agg [.i 1,.s xE],.agg [.i 0,.s Qe]],.i 1,.s [54,52],.nil]],.ints .i64 false [1]],.i 0]
def L2:List yK:=[rk 16 [xN,xR,dz pE]<|.bW [.ints .i64 false [9,7],.row false 1 [.ints .i64 false [2,9]],.i 0],rk 58 [xN,xR,dz pE]<|.bW [Za,.i 0],rk 15 [xN,xR,dz pE]<|.bW [xS,.i 0],rk 15 [xN,xR,dz tR]<|.bW [.agg [.nil,.nil],.i 24],
 rk 30 [xN,xS] (.bW [.row true 1 [.strs true [[49,47,49,54],[49,47,52]]],.i 0]),rk 32 [xN,xR,dz pE,xS]<|.bW [.strs true [[49],[50]],.i 0],rk 41 [xN,dz pE,xS] Uq,rk 59 [.s [57,47,49,48]]<|.bW [.i<|-1,.i 0],
 rk 17 [xN,xR,dz pE,xS] (.i 0),rk 23 [xN,xR,dz tR,.ints .i64 false [7,6]]<|.i 0]
def T2:pW:=BX L2
def YV:Vf Tryz.prog L2:=⟨IC,Ni,Sf,Xr,H0,Mi,I8,RI,Tq,N9,U⟩
def YQ:∀g xs r,T2 g xs=some r->aM Tryz.prog g xs r:=λ_ _ _ h=>oC YV h
def Rs:aM Tryz.prog 57 [] (.agg [.i 2,.row true 5 [.agg [.s [105,110,116,101,103,114,97,116,111,114],.row true 2 [.agg [.i 1,.s [49]],.agg [.i 0,.s [49]]],.i 1,.s [49],.nil]],.ints .i64 true [1]]):=iA gU (B:=[]) aW
def Tt:aM Tryz.prog 60 [.ints .i64 false [9,7],.ints .i64 false [9,7]] (.b true):=iA gU (B:=[]) aW
def Tu:aM Tryz.prog 60 [.ints .i64 false [2,9],.ints .i64 false [2,9]] (.b true):=iA gU (B:=[]) aW
def T5{o:Oper}{x y:Operand}{a b c:Int}{u:TypeId}(n:o.op=.binOp .neq 120 x y u):mE Tryz.prog o [] [.agg [.i a,.i b,.i c],.agg [.i a,.i b,.i c]] [] (.b false):=by
 refine tj W W I ?_;intro w S q D hc m d;have k:Tryz.prog.underlying 120=some (.struct<|Tryz.prog.fieldsOf 120):=aW;have C:Tryz.prog.stoodInHeld 120=false:=aW;have B:q=[.agg #[.int .i64 a,.int .i64 b,.int .i64 c],.agg #[.int .i64 a,.int .i64 b,.int .i64 c]]:=by
  simp only[aB,SV.den,Cells,Rel]at hc;obtain⟨s,R,F1,F2,rfl,-,-,j,r,Q,F3,F4,rfl,-,-,g,rfl,-⟩:=hc;have e:∀(v:Value)(F:List Nat),(∃l:Array Value,v=.agg l/\Cells w S true [.v<|.int .i64 a,.v<|.int .i64 b,.v<|.int .i64 c] l.toList F)->v=.agg #[.int .i64 a,.int .i64 b,.int .i64 c]:=by rintro v F⟨⟨l⟩,rfl,h⟩;simp only[Cells,Rel]at h;obtain⟨N,m1,G1,Z,p,-,-,r1,M,P,Y,X,K,-,-,z,L,O,V,T,J,-,-,t,H,-⟩:=h;rw[r1.2.1,K,z.2.1,J,t.2.1,H]at p;rw[p]
  rw[e s _<|by simp only[Cells,Rel];exact j,e r _<|by simp only[Cells,Rel];exact g]
 have A:m x=.agg #[.int .i64 a,.int .i64 b,.int .i64 c]/\m y=.agg #[.int .i64 a,.int .i64 b,.int .i64 c]:=by
  have:o.op.operands.toList=[x,y]:=by rw[n];rfl
  rw[this,B]at d;simp[afc,afZ,List.cons.injEq,and_true]at d;exact d
 have f:(binOp .neq 120 (.agg #[.int .i64 a,.int .i64 b,.int .i64 c])<|.agg #[.int .i64 a,.int .i64 b,.int .i64 c]).run Tryz.prog w=.ok (.bool false) w:=by
  rw[run_neq_struct,show(10000:Nat)=9999+1 from W,run_equalIn_agg w 9999 120 _ _ k C];simp[Program.fieldsOf,Tryz.underlying120]
  go_simp
 refine⟨.value<|.bool false,.bool false,w,?_,.inl W,S,[],⟨W,W,W,adp _,λ_ _=>rfl⟩,λ_ h=>h,λ_ h=>.inl h,λb h=>D b h,by simp[SV.den,Rel,scalar],ae5,I⟩;simp[execOp,n,A,run_eqGuard_agg,hm,f]
def tS(o:Bool)(xs:List Int)(is:List (List Int)):SV:=.agg [.ints .i64 o xs,.bA o 1 [] (SV.ints .i64 o) is]
def Kv(sh:List Int)(is:List (List Int)):Bool:=is.all (λl=>decide (l.length<=12))&&decide (sh.length<=110/\is.length<=110)
def aa0(sh:List Int)(is:List (List Int))(g:sh.length<=9223372036854775807)(f:is.length<=9223372036854775807)(c:∀l∈is,l.length<=9223372036854775807):aM Tryz.prog 11 [tS false sh is] (.u<|Kv sh is):=by
 refine bS Tryz.func11 W<|r0 W ?_;unfold Kv;refine ra (λi:Nat=>[(1,.box true<|tS false sh is),(6,.bA false 1 [] (SV.ints .i64 false) is),(7,.i is.length),(8,.i i)]) (λi=>i<=is.length/\(is.all λl=>decide (l.length<=12))=(is.drop i).all λl=>decide (l.length<=12)) (λi=>is.length-i) 0 ⟨adk _,W⟩ ?_;rintro i⟨hi,b⟩;refine bQ W W ?_ ?_<;>intro g1
 ·have a:i<is.length:=E;have d:(i:Int).toNat=i:=E;have e:is.getD i []=is[i]:=au a;have:=c _<|adC a;rw[aeE a,ae6]at b;rw[b];refine qp W ?_;rw[d,e];refine gb W ?_ ?_<;>intro g2
  ·refine bK W W (show false=_ by rw[decide_eq_false E];rfl)
  refine qp W ?_;rw[decide_eq_true E,afa];exact gS (i+1) ⟨E,W⟩
 rw[b,afi E];refine bJ W 20 W ?_ ?_<;>intro g2
 ·refine bK W W<|ar.of_eq<|congrArg SV.u ?_;show decide _=(true&&decide _);rw[afa,decide_eq_decide];omega
 refine bK W W (show false=(true&&decide _) by rw[decide_eq_false E];rfl)
def inR(e:Int):Bool:=decide (-40<=e/\e<=40)
def Zx(p:gV)(sh:List Int)(is:List (List Int)):Prop:=(sh.length:Int)=p.n/\is.length=p.aa.length/\∀i<p.aa.length,(is.getD i []).length=(p.aa.getD i default).ah.length
instance(p:gV)(sh:List Int)(is:List (List Int)):Decidable (Zx p sh is):=inferInstanceAs<|Decidable<|_/\_
def aat(sh:List Int)(is:List (List Int)):Bool:=sh.all inR&&is.all λl=>l.all inR
def aaA(p:gV)(sh:List Int)(is:List (List Int)):Int:=if Zx p sh is then if aat sh is=true then 0 else 3 else 2
def aar{α:Type}(f:α->Bool){l:List α}{i:Nat}(h:i<l.length):(l.drop i).all f=(f l[i]&&(l.drop<|i+1).all f):=by rw[aeE h,ae6]
def aav(p:gV)(B:rA p)(sh:List Int)(is:List (List Int))(hs:Kv sh is=true):aM Tryz.prog 13 [bh p,tS false sh is] (.i<|aaA p sh is):=by
 have D:=B.aa;unfold Kv at hs;simp only[adD,aeI,decide_eq_true_eq]at hs;obtain⟨q,F,H⟩:=hs;unfold aaA;have v:¬Zx p sh is->SV.i 2=SV.i (if Zx p sh is then if aat sh is=true then 0 else 3 else 2):=λh=>by rw[if_neg h]
 refine bS Tryz.func13 W<|cx 2 [(2,.box true<|bh p),(3,.box true<|tS false sh is)] ((sh.length:Int)=p.n/\is.length=p.aa.length) ?_ λJ=>?_
 ·refine bJ W 15 W ?_ ?_<;>intro g
  ·refine bK W W<|ar.of_eq<|v λh=>g h.1
  refine bQ W W ?_ ?_<;>intro g2
  ·refine bK W W<|ar.of_eq<|v λh=>g2<|by rw[h.2.1]
  refine r0 W<|gm ⟨afI.1 g,E⟩
 obtain⟨hn,hu⟩:=J;refine r0 W<|ra (λi:Nat=>[(2,.box true<|bh p),(3,.box true<|tS false sh is),(5,.i i)]) (λi=>i<=p.aa.length/\∀k<i,(is.getD k []).length=(p.aa.getD k default).ah.length) (λi=>p.aa.length-i) 0 ⟨adk _,λk y=>absurd y<|agM k⟩ ?_;rintro i⟨hi,n⟩;refine bQ W W ?_ ?_<;>intro g1
 ·have a:i<p.aa.length:=E;have f:(i:Int).toNat=i:=E;have:=q _<|bw (d:=[])<|show i<is.length from E;have:=(B.unit _<|bw (d:=default) a).ah;refine II W ?_;rw[f];refine gb W ?_ ?_<;>intro g2
  ·refine bK W W<|ar.of_eq<|v λh=>g2<|by rw[h.2.2 i a]
  refine qp W<|gS (i+1) ⟨E,λk y=>?_⟩;by_cases e:k=i
  ·rw[e];omega
  exact n k E
 have x:Zx p sh is:=⟨hn,hu,λi hi=>n i E⟩;rw[if_pos x];have t:¬aat sh is=true->SV.i 3=SV.i (if aat sh is=true then 0 else 3):=λh=>by rw[if_neg h]
 refine r0 W<|ra (λi:Nat=>[(2,.box true<|bh p),(3,.box true<|tS false sh is),(6,.i i)]) (λi=>i<=sh.length/\sh.all inR=(sh.drop i).all inR) (λi=>sh.length-i) 0 ⟨adk _,W⟩ ?_;rintro i⟨hi,n⟩;refine bQ W W ?_ ?_<;>intro g2
 ·have a:i<sh.length:=E;have f:(i:Int).toNat=i:=E;have m:sh.getD i 0=sh[i]:=au a;rw[aar _ a]at n;have c:inR sh[i]=false->¬aat sh is=true:=λh=>by unfold aat;rw[n,h];simp
  refine qp W ?_;rw[f,m];refine aC 58 W ?_ ?_<;>intro A
  ·refine bK W W<|ar.of_eq<|t<|c<|decide_eq_false E
  refine qp W ?_;rw[f,m];refine gb W ?_ ?_<;>intro z
  ·refine bK W W<|ar.of_eq<|t<|c<|decide_eq_false E
  refine qp W<|gS (i+1) ⟨E,by rw[n,show inR sh[i]=true from decide_eq_true E,afa]⟩
 have w:sh.all inR=true:=by rw[n,afi E];rfl
 have r:aat sh is=is.all λl=>l.all inR:=by unfold aat;rw[w,afa]
 refine r0 W<|ra (λi:Nat=>[(2,.box true<|bh p),(3,.box true<|tS false sh is),(7,.i i)]) (λi=>i<=is.length/\(is.all λl=>l.all inR)=(is.drop i).all λl=>l.all inR) (λi=>is.length-i) 0 ⟨adk _,W⟩ ?_;rintro i⟨hi,b⟩;refine bQ W W ?_ ?_<;>intro A
 ·have a:i<is.length:=E;have f:(i:Int).toNat=i:=E;have m:is.getD i []=is[i]:=au a;have C:=q _<|adC a;rw[aar _ a]at b;refine r0 W<|ra (λk:Nat=>[(2,.box true<|bh p),(3,.box true<|tS false sh is),(7,.i i),(8,.i k)]) (λk=>k<=is[i].length/\is[i].all inR=(is[i].drop k).all inR) (λk=>is[i].length-k) 0 ⟨adk _,W⟩ ?_;rintro k⟨y,j⟩;refine qp W ?_;rw[f,m];refine gb W ?_ ?_<;>intro z
  ·have o:k<is[i].length:=E;have u:(k:Int).toNat=k:=E;have s:is[i].getD k 0=is[i][k]:=au o;rw[aar _ o]at j;have c:inR is[i][k]=false->¬aat sh is=true:=λh=>by rw[r,b,j,h];simp
   refine r1 W (by simp only[bo,and_true,f,u,m]<;>omega) ?_;rw[f,m,u,s];refine aC 92 W ?_ ?_<;>intro L
   ·refine bK W W<|ar.of_eq<|t<|c<|decide_eq_false E
   refine r1 W (by simp only[bo,and_true,f,u,m]<;>omega) ?_;rw[f,m,u,s];refine gb W ?_ ?_<;>intro K
   ·refine bK W W<|ar.of_eq<|t<|c<|decide_eq_false E
   refine qp W<|gS (k+1) ⟨E,by rw[j,show inR is[i][k]=true from decide_eq_true E,afa]⟩
  rw[show is[i].all inR=true by rw[j,afi E];rfl,afa]at b;refine qp W<|gS (i+1) ⟨E,b⟩
 rw[if_pos<|by rw[r,b,afi E];rfl];refine bN W W
def abb(e:Int):aM Tryz.prog 165 [.i e] (.u<|!inR e):=by refine bS Tryz.func165 W<|bP W W (xK e (-40) 40) W<|bK W W<|ar.of_eq<|congrArg SV.u ?_;unfold inR;rw[<-decide_not,decide_eq_decide];omega
def aaS(l:List Int)(hl:l.length<2^60):aM Tryz.prog 148 [.ints .i64 false l,.fn (.func 165) [] []] (.i<|rf (λe=> !inR e) l 0):=by
 refine bS Tryz.func148 W<|r0 W<|ra (λi:Nat=>[(0,.ints .i64 false l),(1,.fn (.func 165) [] []),(7,.i l.length),(8,.i i)]) (λi=>i<=l.length/\rf (λe=> !inR e) l 0=rf (λe=> !inR e) (l.drop i) i) (λi=>l.length-i) 0 ⟨adk _,W⟩ ?_;rintro i⟨hi,b⟩;refine bQ W W ?_ ?_<;>intro h
 ·have a:i<l.length:=E;have d:(i:Int).toNat=i:=E;rw[Cm _ a]at b;refine r1 W (by simp only[bo,and_true,d];omega) ?_;refine bG W (abb _) W ?_;rw[d,au a];refine r0 W<|ni W W W ?_ ?_<;>intro c
  ·refine bK W W<|bR ?_;rw[b,if_pos c]
  refine r1 W (by simp only[bo,and_true];omega) ?_;refine gS (i+1) ⟨E,?_⟩;rw[b,if_neg<|by rw[c];simp]
 refine bK W W<|bR ?_;rw[b,afo E];rfl
def aaH(l:List Int)(hl:l.length<2^60):aM Tryz.prog 73 [.ints .i64 false l,.fn (.func 165) [] []] (.u<|!l.all inR):=by refine bS Tryz.func73 W<|bP W W (aaS l hl) W<|bK W W<|ar.of_eq<|congrArg SV.u ?_;rw[aip,decide_eq_true_eq,qK _ _ _<|aff 0];simp
def aa1(p:gV)(s:rA p)(sh:List Int)(is:List (List Int))(hs:Kv sh is=true):aM Tryz.prog 94 [bh p,tS false sh is] (.i<|aaA p sh is):=by
 have u:=s.aa;unfold Kv at hs;simp only[adD,aeI,decide_eq_true_eq]at hs;obtain⟨j,v,w⟩:=hs;unfold aaA;have o:¬Zx p sh is->SV.i 2=SV.i (if Zx p sh is then if aat sh is=true then 0 else 3 else 2):=λh=>by rw[if_neg h]
 refine bS Tryz.func94 W<|cx 2 [(2,.box true<|bh p),(3,.box true<|tS false sh is)] ((sh.length:Int)=p.n/\is.length=p.aa.length) ?_ λy=>?_
 ·refine bJ W 15 W ?_ ?_<;>intro g
  ·refine bK W W<|ar.of_eq<|o λh=>g h.1
  refine bQ W W ?_ ?_<;>intro g2
  ·refine bK W W<|ar.of_eq<|o λh=>g2<|by rw[h.2.1]
  refine r0 W<|gm ⟨afI.1 g,E⟩
 obtain⟨hn,hu⟩:=y;refine r0 W<|ra (λi:Nat=>[(2,.box true<|bh p),(3,.box true<|tS false sh is),(25,.bA false 5 default dQ p.aa),(26,.i p.aa.length),(27,.i i)]) (λi=>i<=p.aa.length/\∀k<i,(is.getD k []).length=(p.aa.getD k default).ah.length) (λi=>p.aa.length-i) 0 ⟨adk _,λk t=>absurd t<|agM k⟩ ?_;rintro i⟨hi,b⟩;refine bQ W W ?_ ?_<;>intro g1
 ·have a:i<p.aa.length:=E;have n:(i:Int).toNat=i:=E;have:=j _<|bw (d:=[])<|show i<is.length from E;have:=(s.unit _<|bw (d:=default) a).ah;refine k1 W aW (by simp only[bo,and_true,n]<;>omega) ?_;rw[n];refine gb W ?_ ?_<;>intro g2
  ·refine bK W W<|ar.of_eq<|o λh=>g2<|by rw[h.2.2 i a]
  refine r1 W ba<|gS (i+1) ⟨E,λk t=>?_⟩;by_cases e:k=i
  ·rw[e];omega
  exact b k E
 have q:Zx p sh is:=⟨hn,hu,λi hi=>b i E⟩;rw[if_pos q];obtain⟨L,f⟩:∃L,L=sh::is:=⟨_,W⟩;have r:aat sh is=L.all λl=>l.all inR:=by rw[f];rfl
 have A:L.length=is.length+1:=by rw[f];rfl
 rw[r];refine r1 W (by simp only[bo,and_true];exact⟨λ_=>rfl,λ_=>rfl,by simp only[len];omega⟩) ?_;refine loop (λi:Nat=>[(48,.bA true 1 [] (SV.ints .i64 false) L),(49,.i L.length),(50,.i i)]) (λi=>i<=L.length/\(L.all λl=>l.all inR)=(L.drop i).all λl=>l.all inR) (λi=>L.length-i) 0 ⟨adk _,W⟩ ⟨⟨W,W,W,by rw[cX,f];exact jC.refl _⟩,⟨W,bR ?_⟩,G,U⟩ ?_
 ·rw[cX,f];simp[fH]
 rintro i⟨hi,b⟩;refine bQ W W ?_ ?_<;>intro g2
 ·have a:i<L.length:=E;have n:(i:Int).toNat=i:=E;have z:L.getD i []=L[i]:=au a;have c:L[i].length<2^60:=by
   have:=adC a;generalize L[i]=x at this;rw[f]at this;rcases adZ.1 this with rfl|h
   ·omega
   have:=j _ h;omega
  rw[aar _ a]at b;refine r1 W (by simp only[bo,and_true,n]<;>omega) ?_;rw[n,z];refine bG W (aaH _ c) W<|r0 W<|ni W W W ?_ ?_<;>intro m
  ·refine r0 W ?_;rw[if_neg<|by rw[b];simp only[af9]at m;rw[m];simp];exact bF W
  refine r1 W ba<|gS (i+1) ⟨E,by simp only[Bool.not_eq_false']at m;rw[b,m,afa]⟩
 rw[if_pos<|by rw[b,afi E];rfl];refine bN W W
section
variable{g:FuncId}{P:Int->Bool}{c:SV}
def aaT(f:∀k,aM Tryz.prog g [.i k,.box false c]<|.u<|P k)(l:List Int)(hl:l.length<2^60):aM Tryz.prog 148 [.ints .i64 false l,.fn (.func g) [] [.box false c]] (.i<|rf P l 0):=by
 refine bS Tryz.func148 W<|r0 W<|ra (λi:Nat=>[(0,.ints .i64 false l),(1,.fn (.func g) [] [.box false c]),(7,.i l.length),(8,.i i)]) (λi=>i<=l.length/\rf P l 0=rf P (l.drop i) i) (λi=>l.length-i) 0 ⟨adk _,W⟩ ?_;rintro i⟨hi,b⟩;refine bQ W W ?_ ?_<;>intro h
 ·have a:i<l.length:=E;have e:(i:Int).toNat=i:=E;rw[Cm _ a]at b;refine r1 W (by simp only[bo,and_true,e];omega) ?_;refine bG W (f _) W ?_;rw[e,au a];refine r0 W<|ni W W W ?_ ?_<;>intro d
  ·refine bK W W<|bR ?_;rw[b,if_pos d]
  refine r1 W (by simp only[bo,and_true];omega) ?_;refine gS (i+1) ⟨E,?_⟩;rw[b,if_neg<|by rw[d];simp]
 refine bK W W<|bR ?_;rw[b,afo E];rfl
def aaI(a:∀k,aM Tryz.prog g [.i k,.box false c]<|.u<|P k)(l:List Int)(hl:l.length<2^60):aM Tryz.prog 73 [.ints .i64 false l,.fn (.func g) [] [.box false c]] (.u<|l.any P):=by refine bS Tryz.func73 W<|bP W W (aaT a l hl) W<|bK W W<|ar.of_eq<|congrArg SV.u ?_;rw[aip,decide_eq_true_eq,qK _ _ _<|aff 0,ah2]
def aa3(k o:Int):aM Tryz.prog 195 [.i k,.box false<|.i o] (.u<|decide (k≠o)):=by refine bS Tryz.func195 W<|bN W W
def cfU(b:fE)(sh:List Int)(u:bT)(l:List Int):Bool:=if u.kind=jz then l.any λk=>decide (k≠sh.getD u.out.toNat 0)else if u.kind=bq then decide (l.getD 0 0+l.getD 1 0-b.c≠sh.getD u.out.toNat 0)else false
def YF(p:gV)(sh:List Int)(is:List (List Int))(b:fE):Prop:=∃j<p.aa.length,cfU b sh (p.aa.getD j default) (is.getD j [])=true
instance(p:gV)(sh:List Int)(is:List (List Int))(b:fE):Decidable (YF p sh is b):=inferInstanceAs<|Decidable<|∃j,j<p.aa.length/\_
structure StV(p:gV)(sh:List Int)(is:List (List Int)):Prop where
 len:Zx p sh is
 sh:∀e∈sh,-40<=e/\e<=40
 is:∀l∈is,∀e∈l,-40<=e/\e<=40
def aaK{p:gV}{sh:List Int}{is:List (List Int)}(h:aaA p sh is=0):StV p sh is:=by
 unfold aaA at h;split at h
 ·split at h
  ·rename_i b a;unfold aat inR at a;simp only[adD,aeI,decide_eq_true_eq]at a;exact⟨b,a.1,a.2⟩
  simp at h
 simp at h
def aaJ(p:gV)(B:rA p)(M:∀u∈p.aa,iQ p.n u)(sh:List Int)(is:List (List Int))(hs:StV p sh is)(b:fE)(S:J9 b):aM Tryz.prog 115 [bh p,tS false sh is,dz b] (.u<|decide (YF p sh is b)):=by
 obtain⟨⟨hn,Q,y⟩,v,x⟩:=hs;have N:=B.aa;have R:=S.c;refine bS Tryz.func115 W<|r0 W<|ra (λi:Nat=>[(3,.box true<|bh p),(4,.box true<|tS false sh is),(5,.box true<|dz b),(12,.bA false 5 default dQ p.aa),(13,.i p.aa.length),(14,.i i)]) (λi=>i<=p.aa.length/\∀k<i,¬cfU b sh (p.aa.getD k default) (is.getD k [])=true) (λi=>p.aa.length-i) 0 ⟨adk _,λk D=>absurd D<|agM k⟩ ?_;rintro i⟨hi,H⟩;refine bQ W W ?_ ?_<;>intro g1
 ·have q:i<p.aa.length:=E;have J:(i:Int).toNat=i:=E;have t:=bw (d:=(default:bT)) q;have hu:=M _ t;have A:=(B.unit _ t).ah;have w:=bw (d:=([]:List Int)) (show i<is.length from E);have F:=y i q;have o:=x _ w;have a:cfU b sh (p.aa.getD i default) (is.getD i [])=true->decide (YF p sh is b)=true:=λh=>decide_eq_true ⟨i,q,h⟩;have m:¬cfU b sh (p.aa.getD i default) (is.getD i [])=true->∀k<i+1,¬cfU b sh (p.aa.getD k default) (is.getD k [])=true:=λh k D=>by
   by_cases e:k=i
   ·rw[e];exact h
   exact H k E
  have C:=hu.out;have O: -40<=sh.getD (p.aa.getD i default).out.toNat 0/\sh.getD (p.aa.getD i default).out.toNat 0<=40:=v _<|bw E;refine k1 W aW (by simp only[bo,and_true,J]<;>omega) ?_;rw[J];generalize p.aa.getD i default=u at*;generalize is.getD i []=l at*;unfold cfU at a m;refine gb W ?_ ?_<;>intro s
  ·have s:u.kind=jz:=s;rw[if_pos s]at a m;refine oN (r:=9) (p:=[]) W W U<|bP W W (aaI (λk=>aa3 k _) l E) W<|r0 W<|ni W W W ?_ ?_<;>intro f
   ·refine bK W W (show true=_ from(a f).symm)
   refine r1 W ba<|gS (i+1) ⟨E,m<|by rw[f];simp⟩
  have s:¬u.kind=jz:=s;rw[if_neg s]at a m;refine bQ W W ?_ ?_<;>intro f
  ·have f:u.kind=bq:=f;rw[if_pos f]at a m;have X:=(hu.int f).1;have T:=o _<|bw (d:=(0:Int))<|show 0<l.length from E;have i1:=o _<|bw (d:=(0:Int))<|show 1<l.length from E;have L:Int.toNat 0=0:=W;have K:Int.toNat 1=1:=W;refine k1 W aW (by simp only[bo,and_true,L,K]<;>omega) ?_;refine gb W ?_ ?_<;>intro z
   ·refine bK W W (show true=_ from(a<|decide_eq_true z).symm)
   refine r1 W ba<|gS (i+1) ⟨E,m λh=>z<|of_decide_eq_true h⟩
  have f:¬u.kind=bq:=f;rw[if_neg f]at a m;refine r1 W ba<|gS (i+1) ⟨E,m I⟩
 refine bK W W (show false=_ from(decide_eq_false λ⟨j,V,h⟩=>H j E h).symm)
end
def aas(p:gV)(sh:List Int)(is:List (List Int))(i k:Nat):List Int:=[i,k,(is.getD i []).getD k 0,sh.getD ((p.aa.getD i default).ah.getD k default).sh.toNat 0]
def aaO(p:gV)(sh:List Int)(is:List (List Int))(i:Nat):List (List Int):=(List.range (p.aa.getD i default).ah.length).map<|aas p sh is i
def aag(p:gV)(sh:List Int)(is:List (List Int))(i:Nat):List (List Int):=(List.range i).flatMap<|aaO p sh is
def eIn(q:List Int):SV:=.agg [.i<|q.getD 0 0,.i<|q.getD 1 0,.i<|q.getD 2 0,.i<|q.getD 3 0]
def aaB(p:gV)(sh:List Int)(is:List (List Int))(i:Nat):aag p sh is (i+1)=aag p sh is i++aaO p sh is i:=iM _ _
def aaR(p:gV)(sh:List Int)(is:List (List Int))(i:Nat):(aaO p sh is i).length=(p.aa.getD i default).ah.length:=by simp[aaO]
def aaz(p:gV)(sh:List Int)(is:List (List Int)){i k:Nat}(a:k<(p.aa.getD i default).ah.length):∀N,i<N->(aag p sh is N)[(aag p sh is i).length+k]?=some (aas p sh is i k)
 |0,h=>absurd h (agM i)
 |N+1,h=>by
  rw[aaB];by_cases e:i=N
  ·subst e;rw[afD<|Nat.le_add_right _ _,ag9];unfold aaO;rw[agb,ahL a];rfl
  have b:=aaz p sh is a N E;rw[afK (agj.1 b).1];exact b
def yt(p:gV)(sh:List Int)(is:List (List Int)){i:Nat}:∀{N:Nat},i<=N->(aag p sh is i).length<=(aag p sh is N).length
 |0,h=>by rw[Nat.le_zero.1 h];exact adp _
 |N+1,h=>by
  by_cases e:i=N+1
  ·rw[e];exact adp _
  rw[aaB,aeP];exact ad0 (yt p sh is E)<|Nat.le_add_right _ _
def aaZ(p:gV)(sh:List Int)(is:List (List Int)):aM Tryz.prog 116 [bh p,tS false sh is] (.fn (.func 196) [] [.box false<|bh p,.box false<|tS false sh is]):=by
 refine bS Tryz.func116 W<|cx 1 [(2,.box true<|bh p),(3,.box true<|tS false sh is)] True ?_ λ_=>?_
 ·refine r0 W<|gm U
 refine oN (r:=2) (p:=[]) W W U<|oN (r:=3) (p:=[]) W W U<|bN W W
def aaN(p:gV)(O:rA p)(F:∀u∈p.aa,iQ p.n u)(sh:List Int)(is:List (List Int))(hs:StV p sh is)(f:Nat->Bool)(m:Nat)
 (hm:(∀j<(aag p sh is p.aa.length).length,f j=true)/\m=(aag p sh is p.aa.length).length\/∃q,q<(aag p sh is p.aa.length).length/\f q=false/\(∀j<q,f j=true)/\m=q+1)
 (C:Value->Prop)(J:Nat->tD)(T:∀v,C v->∀k,k<(aag p sh is p.aa.length).length->(∀j,j<k->f j=true)->Yields Tryz.prog (J k) (J<|k+1) (aB [eIn<|(aag p sh is p.aa.length).getD k []]) (f k) v):
 lp Tryz.prog 196 [.abs<|J 0] [.pv C,.box false<|bh p,.box false<|tS false sh is] [.abs<|J m] (.bW []):=by
 obtain⟨⟨hn,Z,L⟩,X,Y⟩:=hs;have V:=O.aa;refine sE (fn:=Tryz.f196) Tryz.func196 W W W W W<|bM W (λi:Nat=>[(0,.pv C),(1,.box false<|bh p),(2,.box false<|tS false sh is),(9,.bA false 5 default dQ p.aa),(10,.i p.aa.length),(11,.i i),(1000000,.abs<|J (aag p sh is i).length)]) (λi=>i<=p.aa.length/\∀j<(aag p sh is i).length,f j=true) (λi=>p.aa.length-i) 0 ⟨adk _,λk A=>absurd A<|agM k⟩ ⟨G,G,G,G,G,G,W,U⟩ ?_;rintro i⟨hi,Q⟩;refine bQ W W ?_ ?_<;>intro g1
 ·have o:i<p.aa.length:=E;have B:(i:Int).toNat=i:=E;have s:=bw (d:=(default:bT)) o;have hu:=F _ s;have M:=(O.unit _ s).ah;have P:=L i o;have y:=λk(A:k<(p.aa.getD i default).ah.length)=>aaz p sh is A p.aa.length o;have H:=aaB p sh is i;have K:=aaR p sh is i;have D:∀k,aas p sh is i k=[(i:Int),(k:Int),(is.getD i []).getD k 0,sh.getD ((p.aa.getD i default).ah.getD k default).sh.toNat 0]:=λ_=>rfl;refine r1 W (by simp only[bo,and_true,B]<;>omega) ?_;rw[B];generalize p.aa.getD i default=u at*;generalize R:is.getD i []=l at*;refine loop (λk:Nat=>[(0,.pv C),(1,.box false<|bh p),(2,.box false<|tS false sh is),(9,.bA false 5 default dQ p.aa),(10,.i p.aa.length),(11,.i i),(4,.i i),(17,.bA false 2 default oX u.ah),(18,.i u.ah.length),(19,.i k),(1000000,.abs<|J<|(aag p sh is i).length+k)]) (λk=>k<=u.ah.length/\∀j<(aag p sh is i).length+k,f j=true) (λk=>u.ah.length-k) 0 ⟨adk _,Q⟩ ⟨G,G,G,G,G,G,G,G,G,G,W,U⟩ ?_;rintro k⟨A,c⟩;refine bQ W W ?_ ?_<;>intro g2
  ·have x:k<u.ah.length:=E;have S:(k:Int).toNat=k:=E;have A0:=hu.feed _<|bw (d:=default) x;have N:=y k x;have w:=(agj.1 N).1;have t:(aag p sh is p.aa.length).getD ((aag p sh is i).length+k) []=aas p sh is i k:=by rw[adY,N];rfl
   rw[D]at t;refine r1 W (by simp only[bo,and_true,B,S,R]<;>omega) ?_;rw[B,R,S];have b:=λv F=>T v F _ w c;rw[t]at b;cases a:f ((aag p sh is i).length+k)with
   |true=>
    rw[a]at b;refine PD W W U b W<|k0 W aW<|ni W W W (λg=>absurd g fh) λ_=>?_;refine r1 W ba<|again (k+1) E ⟨E,λj hj=>?_⟩ ⟨G,G,G,G,G,G,G,G,G,G,W,U⟩;by_cases e:j=(aag p sh is i).length+k
    ·rw[e];exact a
    exact c j E
   |false=>
    rw[a]at b;have em:m=(aag p sh is i).length+k+1:=by
     rcases hm with⟨r,-⟩|⟨q,r,z,h3,h4⟩
     ·rw[r _ w]at a;cases a
     have a1:¬q<(aag p sh is i).length+k:=λh=>by rw[c q h]at z;cases z
     have a2:¬(aag p sh is i).length+k<q:=λh=>by rw[h3 _ h]at a;cases a
     omega
    subst em;refine PD W W U b W<|k0 W aW<|ni W W W (λ_=>?_) λg=>absurd g fh;refine r0 W<|SN [(1000000,.abs<|J<|(aag p sh is i).length+k+1)] ⟨W,U⟩ W U ⟨G,U⟩
  have e:k=u.ah.length:=E;subst e;have e2:(aag p sh is<|i+1).length=(aag p sh is i).length+u.ah.length:=by rw[H,aeP,K]
  refine r1 W ba ?_;rw[<-e2]at c⊢;exact again (i+1) E ⟨E,c⟩ ⟨G,G,G,G,G,G,W,U⟩
 have e:i=p.aa.length:=E;subst e;have em:m=(aag p sh is p.aa.length).length:=by
  rcases hm with⟨-,r⟩|⟨q,r,z,-,-⟩
  ·exact r
  rw[Q q r]at z;cases z
 subst em;refine r0 W<|SN [(1000000,.abs<|J (aag p sh is p.aa.length).length)] ⟨W,U⟩ W U ⟨G,U⟩
def abD(p:gV)(y:rA p)(D:∀u∈p.aa,iQ p.n u)(b:fE)(N:J9 b)(sh:List Int)(is:List (List Int))(s:StV p sh is):
 aM Tryz.prog 47 [bh p,dz b,tS false sh is] (.i<|if YF p sh is b then 30 else 0):=by
 have F:=y.aa;have M:=N.c;obtain⟨⟨S,T,q⟩,Q,R⟩:=s;refine bS Tryz.func47 W<|r0 W<|ra (λi:Nat=>[(3,.box true<|bh p),(4,.box true<|dz b),(5,.box true<|tS false sh is),(7,.i i)]) (λi=>i<=p.aa.length/\∀j<i,¬cfU b sh (p.aa.getD j default) (is.getD j [])=true) (λi=>p.aa.length-i) 0 ⟨adk _,λj c=>absurd c<|agM j⟩ ?_;rintro i⟨hi,l⟩;refine bQ W W ?_ ?_<;>intro g1
 ·have a:i<p.aa.length:=E;have A:(i:Int).toNat=i:=E;have hu:=D _<|bw (d:=default) a;have K:=(y.unit _<|bw (d:=default) a).ah;have O:=q i a;have o:=R _<|bw (d:=([]:List Int))<|show i<is.length from E;have f:cfU b sh (p.aa.getD i default) (is.getD i [])=true->(if YF p sh is b then(30:Int)else 0)=30:=λh=>if_pos ⟨i,a,h⟩;have B:¬cfU b sh (p.aa.getD i default) (is.getD i [])=true->∀j<i+1,¬cfU b sh (p.aa.getD j default) (is.getD j [])=true:=λh j c=>by
   by_cases e:j=i
   ·rw[e];exact h
   exact l j E
  have out:=hu.out;have V:=Q _<|bw (d:=(0:Int))<|show(p.aa.getD i default).out.toNat<sh.length from E;refine Qr 3 W U<|cx 3 [(3,.box true<|bh p),(4,.box true<|dz b),(5,.box true<|tS false sh is),(7,.i i),(8,.box true<|dQ<|p.aa.getD i default),(9,.ints .i64 false<|is.getD i [])] ((p.aa.getD i default).kind=bq->¬cfU b sh (p.aa.getD i default) (is.getD i [])=true) ?_ λJ=>?_
  ·refine r1 W (by simp only[bo,and_true,A]<;>omega) ?_;rw[A];generalize p.aa.getD i default=u at*;generalize is.getD i []=L at*;refine aC 31 W ?_ ?_<;>intro h
   ·have h:u.kind=bq:=h;have X:=(hu.int h).1;have w:Int.toNat 0=0:=W;have v:Int.toNat 1=1:=W;have Z:=o _<|bw (d:=(0:Int))<|show 0<L.length from E;have Y:=o _<|bw (d:=(0:Int))<|show 1<L.length from E;have e:cfU b sh u L=decide (L.getD 0 0+L.getD 1 0-b.c≠sh.getD u.out.toNat 0):=by unfold cfU;rw[if_neg<|by rw[h];decide,if_pos h]
    refine k1 W aW (by simp only[bo,and_true,w,v]<;>omega) ?_;rw[w,v];refine gb W ?_ ?_<;>intro g
    ·refine bK W W<|ar.of_eq<|congrArg SV.i (f<|by rw[e];exact decide_eq_true g).symm
    refine r0 W<|gm (λ_=>by rw[e,decide_eq_true_eq];exact g)
   refine k0 W aW<|gm λe=>absurd e h
  generalize p.aa.getD i default=u at*;generalize is.getD i []=L at*;refine r0 W<|ra (λk:Nat=>[(3,.box true<|bh p),(4,.box true<|dz b),(5,.box true<|tS false sh is),(7,.i i),(8,.box true<|dQ u),(9,.ints .i64 false L),(10,.i k)]) (λk=>k<=L.length/\(u.kind=jz->∀j<k,L.getD j 0=sh.getD u.out.toNat 0)) (λk=>L.length-k) 0 ⟨adk _,λ_ j c=>absurd c<|agM j⟩ ?_;rintro k⟨H,m⟩;refine bQ W W ?_ ?_<;>intro g2
  ·have t:k<L.length:=E;have z:(k:Int).toNat=k:=E;refine bJ W 59 W ?_ ?_<;>intro h
   ·have h:u.kind=jz:=h;refine k1 W aW (by simp only[bo,and_true,z]<;>omega) ?_;rw[z];refine gb W ?_ ?_<;>intro g
    ·refine bK W W<|ar.of_eq<|congrArg SV.i (f ?_).symm;unfold cfU;rw[if_pos h,ah2];exact⟨_,bw (d:=(0:Int)) t,decide_eq_true g⟩
    refine qp W<|gS (k+1) ⟨E,λ_ j c=>?_⟩;by_cases e:j=k
    ·rw[e];exact afI.1 g
    exact m h j E
   refine II W<|gS (k+1) ⟨E,λe=>absurd e h⟩
  refine qp W<|gS (i+1) ⟨E,B ?_⟩;by_cases P:u.kind=bq
  ·exact J P
  unfold cfU;split
  ·rename_i h;rw[ah2];rintro⟨x,C,r⟩;obtain⟨j,c,rfl⟩:=agP C;have:=m h j E;rw[au c]at this;exact of_decide_eq_true r this
  decide
 refine bK W W<|ar.of_eq<|congrArg SV.i (if_neg ?_).symm;rintro⟨j,c,h⟩;exact l j E h
noncomputable def rtQ(p:gV)(sh:List Int)(is:List (List Int))(i k:Nat):Rat:=iK ((is.getD i []).getD k 0-sh.getD ((p.aa.getD i default).ah.getD k default).sh.toNat 0)*bV ((p.aa.getD i default).ah.getD k default).dZ
def aco(p:gV)(b:rA p)(g:∀u∈p.aa,iQ p.n u)(sh:List Int)(is:List (List Int))(s:StV p sh is)(i k:Nat)(hi:i<p.aa.length)(j:k<(p.aa.getD i default).ah.length):
 aM Tryz.prog 36 [bh p,tS false sh is,.i i,.i k] (.s<|qt<|rtQ p sh is i k):=by
 have h:=b.aa;have f:(i:Int).toNat=i:=E;have e:(k:Int).toNat=k:=E;obtain⟨⟨r,t,a⟩,o,q⟩:=s;have hu:=g _<|bw (d:=default) hi;have l:=(b.unit _<|bw (d:=default) hi).ah;have m:=a i hi;have c:=hu.feed _<|bw (d:=default) j;have w:=q _ (bw (d:=([]:List Int))<|show i<is.length from E) _<|bw (d:=(0:Int))<|show k<(is.getD i []).length from E;have v:=o _<|bw (d:=(0:Int))<|show((p.aa.getD i default).ah.getD k default).sh.toNat<sh.length from E;have hm:=gi _ _ (Sz.iK<|(is.getD i []).getD k 0-sh.getD ((p.aa.getD i default).ah.getD k default).sh.toNat 0) (fi c.2.2.1) E;rw[fZ c.2.2.1]at hm;refine bS Tryz.func36 W<|r1 W (by simp only[bo,and_true,f,e]<;>omega) ?_;rw[f,e];refine bH W (rU _ E) W<|bO W W hm W<|Zz W<|bF W
def pn(n:Nat):Nm:=if n<63 then⟨((2^n:Nat):Int),none⟩else⟨1,some<|2^n⟩
def abl(n:Nat):nv (pn n)=((2^n:Nat):Int):=by
 unfold pn;split
 ·rfl
 show(1:Int)*_=_;rw[agK]
def ab6(n:Nat):bj (pn n):=by
 unfold pn;split
 ·rename_i h;have:=ae2 (n:=2) fh (show n<=62 from E);show(-(2^63):Int)<=((2^n:Nat):Int)/\((2^n:Nat):Int)<=(9223372036854775807:Int);generalize 2^n=m at*;omega
 rename_i h;have:=ae2 (n:=2) fh (show 63<=n from E);exact⟨.inl W,E⟩
def ab4{n:Nat}(h:n<=80):eE.ae (2^n)=if n<64 then[((2^n:Nat):Int)]else[0,((2^(n-64):Nat):Int)]:=by
 by_cases b:n<64
 ·have:=ae2 (n:=2) fh (show n<=63 from E);rw[if_pos b];exact eE.mz (afe fh) E
 rw[if_neg b];have c:=ae2 (n:=2) fh (show n-64<=16 from E);have d:0<2^(n-64):=afe fh;symm;generalize hm:2^(n-64)=m at*;refine eE.tw ?_ (by simp;omega) ?_
 ·intro x a;simp at a;rcases a with rfl|rfl<;>omega
 rw[show n=64+(n-64)from E,afV,hm];simp[eE.val]
def ab5{n:Nat}(h:n<=80):fV (pn n) 2:=by unfold fV;rw[abl,afQ,ab4 h];split<;>simp
def abM:fV ⟨1,none⟩ 2:=by unfold fV;rw[show(nv ⟨1,none⟩).natAbs=2^0 from W,ab4 fh];decide
def pnS(n:Nat):SV:=if n<63 then .agg [.i ((2^n:Nat):Int),.nil]else .agg [.i 1,.ints .u64 false<|if n<64 then[((2^n:Nat):Int)]else[0,((2^(n-64):Nat):Int)]]
def acI{n:Nat}(h:n<=80):(pnS n).den=(eN<|pn n).den:=by
 unfold pn pnS;by_cases a:n<63
 ·rw[if_pos a,if_pos a];rfl
 rw[if_neg a,if_neg a];unfold eN;rw[show ws ⟨1,some<|2^n⟩=eE.ae (2^n)from W,ab4 h];split<;>rfl
def pwF(e:Int):Fr:=if e<0 then SO ⟨1,none⟩ (pn (-e).toNat)else⟨pn e.toNat,⟨1,none⟩⟩
def acW{R:Option Nat->Prop}{N:Nat}{F:St->Prop}{k:List It}{l l':aU}(h:dn l=dn l')(a:AK R Tryz.prog N F k l'):AK R Tryz.prog N F k l:=by unfold AK at *;rw[h];exact a
def ab7(e:Int)(h: -80<=e/\e<=80):aM Tryz.prog 96 [xv,.i e] (eF<|pwF e):=by
 refine bS Tryz.func96 W<|r1 W ba ?_;have hn:abP false e (0-e)=((e.natAbs:Nat):Int):=by unfold abP;simp;omega
 rw[hn];refine bG W (Ii 2) W<|bP W W (QC ⟨2,none⟩ e.natAbs (show bj ⟨2,none⟩from by unfold bj;decide) (K:=1) (by unfold fV;rw[show(nv ⟨2,none⟩).natAbs=2 from W,eE.mz (f:=2) fh fh];decide) E E) W ?_;generalize eN (xI ⟨2,none⟩ e.natAbs)=X;refine Qr 2 W U<|cx 1 [(1,.i e),(4,.box true<|.agg [.i 0,.nil,.i 0,.nil]),(6,.box true<|pnS e.natAbs)] True ?_ λ_=>?_
 ·have b:e.natAbs<=80:=E;generalize e.natAbs=n at*;refine bQ W W (λ_=>?_) λg=>absurd E g;rcases n with _|_|_|_|_|_|_|_|_|_|_|_|_|_|_|_|_|_|_|_|_|_|_|_|_|_|_|_|_|_|_|_|_|_|_|_|_|_|_|_|_|_|_|_|_|_|_|_|_|_|_|_|_|_|_|_|_|_|_|_|_|_|_|_|_|_|_|_|_|_|_|_|_|_|_|_|_|_|_|_|_|n
  all_goals first|exact absurd b E|(refine r1 rfl ba ?_;exact gm U)
 have a:=acI (n:=e.natAbs) E;refine acW (l':=sl [(1,.i e),(4,.box true<|.agg [.i 0,.nil,.i 0,.nil]),(6,.box true<|eN<|pn e.natAbs)]) (by simp only[sl,fR,Cl.den,SV.den,a])<|bQ W W ?_ ?_<;>intro g
 ·have hm:=KZ ⟨1,none⟩ (pn e.natAbs) Ga (ab6 _) (by rw[abl];have:=afe (n:=e.natAbs) (show 0<2 from fh);omega) (K:=2) abM (ab5 E) fh;refine bO W W (Ii 1) W<|bO W W hm W<|Zz W<|aE W<|ar.of_eq ?_;unfold pwF;rw[if_pos g,show(-e).toNat=e.natAbs from E];rfl
 refine bP W W (Fs<|pn e.natAbs) W<|bK W W<|ar.of_eq ?_;unfold pwF;rw[if_neg g,show e.toNat=e.natAbs from E];rfl
def abk(e:Int)(h: -80<=e/\e<=80):gW (pwF e) (iK e)/\ri (pwF e) 2:=by
 have c:∀n:Nat,(2:Rat)^n=((2^n:Nat):Rat):=λn=>by rw[air];rfl
 unfold pwF iK;by_cases g:e<0
 ·rw[if_pos g,if_pos g];have d:(0:Int)<((2^(-e).toNat:Nat):Int):=by have:=afe (n:=(-e).toNat) (show 0<2 from fh);omega
  obtain⟨a,b⟩:=BO ⟨1,none⟩ (pn (-e).toNat) Ga (ab6 _) (by rw[abl];omega) abM<|ab5 E;refine⟨?_,b⟩;rw[c];rw[abl,show nv ⟨1,none⟩=1 from W,ahk]at a;rw[show((2^(-e).toNat:Nat):Rat)⁻¹ =((1:Int):Rat)/(((2^(-e).toNat:Nat):Int):Rat) by rw[ahi];simp];exact a
 rw[if_neg g,if_neg g,c];exact⟨⟨ab6 _,Ga,by rw[abl,ahq],by rw[ahr];rfl⟩,ab5 E,abM⟩
end Go.Ai.Pg
section
namespace Go.Proofs
open Go.Shelf
def Tryz.acV:Go.Shelf.Ren:=⟨λ|283=>352|n=>n,λ|3=>3|9=>9|4=>4|n=>n,λ|n=>n⟩
theorem Tryz.acx:Go.Proofs.Lays.n283 Tryz.prog Tryz.acV where
 mixed:=by kernel_rfl
 f283:=Tryz.func352.trans<|congrArg some<|by kernel_rfl
 t3:=Tryz.underlying3
 a3:=Tryz.isAgg3
 z3:=Tryz.sizeOf3
 v3:=Tryz.zeroValue3
 t4:=Tryz.underlying4
 a4:=Tryz.isAgg4
 z4:=Tryz.sizeOf4
 v4:=Tryz.zeroValue4
 t9:=Tryz.underlying9
 a9:=Tryz.isAgg9
 z9:=Tryz.sizeOf9
 v9:=Tryz.zeroValue9
def Tryz.acU:Go.Shelf.Ren:=⟨λ|284=>353|129=>285|317=>370|318=>371|n=>n,λ|53=>311|3=>3|212=>429|0=>0|4=>4|46=>225|5=>5|9=>9|n=>n,λ|17=>5|n=>n⟩
theorem Tryz.acw:Go.Proofs.LaysM.n284 Tryz.prog Tryz.acU where
 mixed:=by kernel_rfl
 f129:=Tryz.func285.trans<|congrArg some<|by kernel_rfl
 f284:=Tryz.func353.trans<|congrArg some<|by kernel_rfl
 f317:=Tryz.func370.trans<|congrArg some<|by kernel_rfl
 f318:=Tryz.func371.trans<|congrArg some<|by kernel_rfl
 t0:=Tryz.underlying0
 a0:=Tryz.isAgg0
 z0:=Tryz.sizeOf0
 v0:=Tryz.zeroValue0
 t3:=Tryz.underlying3
 a3:=Tryz.isAgg3
 z3:=Tryz.sizeOf3
 v3:=Tryz.zeroValue3
 t4:=Tryz.underlying4
 a4:=Tryz.isAgg4
 z4:=Tryz.sizeOf4
 v4:=Tryz.zeroValue4
 t5:=Tryz.underlying5
 a5:=Tryz.isAgg5
 z5:=Tryz.sizeOf5
 v5:=Tryz.zeroValue5
 t9:=Tryz.underlying9
 a9:=Tryz.isAgg9
 z9:=Tryz.sizeOf9
 v9:=Tryz.zeroValue9
 t46:=Tryz.underlying225
 a46:=Tryz.isAgg225
 z46:=Tryz.sizeOf225
 v46:=Tryz.zeroValue225
 t53:=Tryz.underlying311
 a53:=Tryz.isAgg311
 z53:=Tryz.sizeOf311
 v53:=Tryz.zeroValue311
 t212:=Tryz.underlying429
 a212:=Tryz.isAgg429
 z212:=Tryz.sizeOf429
 v212:=Tryz.zeroValue429
 g17:=by kernel_rfl
 i0:=by kernel_rfl
 i3:=by kernel_rfl
 i4:=by kernel_rfl
 i5:=by kernel_rfl
 i9:=by kernel_rfl
 i46:=by kernel_rfl
 i53:=by kernel_rfl
 i212:=by kernel_rfl
 m17:=by kernel_rfl
def Tryz.acQ:Go.Shelf.Ren:=⟨λ|285=>354|n=>n,λ|37=>372|53=>311|3=>3|4=>4|51=>308|9=>9|5=>5|0=>0|n=>n,λ|n=>n⟩
theorem Tryz.acv:Go.Proofs.Lays.n285 Tryz.prog Tryz.acQ where
 mixed:=by kernel_rfl
 f285:=Tryz.func354.trans<|congrArg some<|by kernel_rfl
 t0:=Tryz.underlying0
 a0:=Tryz.isAgg0
 z0:=Tryz.sizeOf0
 v0:=Tryz.zeroValue0
 t3:=Tryz.underlying3
 a3:=Tryz.isAgg3
 z3:=Tryz.sizeOf3
 v3:=Tryz.zeroValue3
 t4:=Tryz.underlying4
 a4:=Tryz.isAgg4
 z4:=Tryz.sizeOf4
 v4:=Tryz.zeroValue4
 t5:=Tryz.underlying5
 a5:=Tryz.isAgg5
 z5:=Tryz.sizeOf5
 v5:=Tryz.zeroValue5
 t9:=Tryz.underlying9
 a9:=Tryz.isAgg9
 z9:=Tryz.sizeOf9
 v9:=Tryz.zeroValue9
 t37:=Tryz.underlying372
 a37:=Tryz.isAgg372
 z37:=Tryz.sizeOf372
 v37:=Tryz.zeroValue372
 t51:=Tryz.underlying308
 a51:=Tryz.isAgg308
 z51:=Tryz.sizeOf308
 v51:=Tryz.zeroValue308
 t53:=Tryz.underlying311
 a53:=Tryz.isAgg311
 z53:=Tryz.sizeOf311
 v53:=Tryz.zeroValue311
open Go.Shelf Go.RowKit Go.Sort Go.Lib
def Tryz.abI(i:Nat)(h:i<100)(w:World):Calls Tryz.prog 352 #[.int .i64 i] w λe w'=>e=.returned (.string ⟨(Lib.decDigits i).toArray⟩)/\w'=w:=Any.internal_strconv_small Tryz.acx i h w
def Tryz.abF(u:Nat)(c:1<=u)(b:u<2^64)(w:World)(a:Lib.TabIs Tryz.prog w "internal/strconv.uint64pow10" .u64 Lib.pow10Tab):Calls Tryz.prog 353 #[.int .u64 u] w λe w'=>e=.returned (.int .i64<|Lib.nDigits u)/\w'=w:=Any.internal_strconv_numDigits Tryz.acw u c b w a
end Go.Proofs
end
namespace Go.Proofs
open Go.Shelf Go.RowKit Go.Sort Go.Lib
def abB(w:World)(T:TypeId)(a:Nat)(hs:a<=24):Holds (λ(b:UInt8)=>Value.int .u8 (b.toNat:Int)) (w.alloc<|.cells zeros24 T) w.heap.size 0 (Array.replicate a (0:UInt8)):=λj c=>by
 have d:j<a:=by simpa using c
 refine⟨?_,World.frozen?_alloc_new _ _ _ _⟩;rw[World.cell?_alloc_new,zeros24_at _ E,getElem!_pos _ j c];simp
def ac4(w:World)(o:Obj)(c:Array UInt8)(k:Nat):∃os,(putRow (λ(b:UInt8)=>Value.int .u8 (b.toNat:Int)) (w.alloc o) w.heap.size 0 c).drewN k=grow (w.drewN k) os:=by rw[alloc_eq_grow];obtain⟨a,_,e⟩:=putRow_grow_new (λ(b:UInt8)=>Value.int .u8 (b.toNat:Int)) w #[o] w.heap.size 0 c<|adp _;exact⟨a,by rw[e];rfl⟩
theorem Tryz.ac3(u:Nat)(hu64:u<2^64)(w:World)(htab:Lib.TabIs Tryz.prog w "internal/strconv.uint64pow10" .u64 Lib.pow10Tab):
 Calls Tryz.prog 335 #[.int .u64 u,.int .i64 10] w λe w'=>e=.returned (.string ⟨(Lib.decDigits u).toArray⟩)/\∃k os,w'=grow (w.drewN k) os:=by
 by_cases hs:u<100
 ·go_enter Tryz.func335,Tryz.ntmps335
  go_wp2_with (go_at_call 352;refine(Tryz.abI u hs _).mono ?_;rintro e w'⟨rfl,rfl⟩)
  go_ret
  exact⟨rfl,0,#[],by simp[World.drewN_zero]⟩
 have hu1:1<=u:=E;have hnd20:Lib.nDigits u<=20:=by have:=Lib.numDigits_eq u hu1 hu64;split at this<;>omega
 have hal:Tryz.prog.arrayLen 410=24:=by simp[Program.arrayLen,Tryz.underlying410]
 have hsl1:∀W,(Instr.sliceAt 410 (.pointer<|some ⟨w.heap.size,0,none⟩) none (some<|.int .i64 (Lib.nDigits u:Int)) none).run Tryz.prog W=.ok (.slice (some ⟨w.heap.size,0,none⟩) (Lib.nDigits u) 24) W:=λW=>by
  rw[run_sliceAt_array_h W 410 ⟨w.heap.size,0,none⟩ (by simp[Program.arrayLen,Program.elem,Tryz.underlying410]) .i64 (Lib.nDigits u:Int) E<|by rw[hal];omega]
  go_simp
  try omega
 have hH0:=abB w 410 (Lib.nDigits u) E;have hfmt:=Any.internal_strconv_formatBase10 Tryz.acv w.heap.size 0 24 u (Array.replicate (Lib.nDigits u) 0) (w.alloc<|.cells Lib.zeros24 410) hH0 (by rw[ais];exact Lib.lt_pow_nDigits u) hu64 (by rw[ais];omega);rw[ais]at hfmt;have hfmt:Calls Tryz.prog 354 #[.slice (some ⟨w.heap.size,0,none⟩) (Lib.nDigits u) 24,.int .u64 u] (w.alloc<|.cells Lib.zeros24 410) _:=hfmt;have HH0:=Lib.hid hH0;clear hH0 hal
 go_enter Tryz.func335,Tryz.ntmps335
 go_wp2_with (first
  |(go_at_call 353;refine(Tryz.abF u hu1 hu64 _<|Lib.tabIs_alloc htab _).mono ?_;rintro e w'⟨rfl,rfl⟩))
 go_at_call 354
 refine hfmt.mono ?_;rintro e w'⟨rfl,k,v',dk,rfl,hF⟩;have hcv:(convert 372 9 (.slice (some ⟨w.heap.size,0,none⟩) (Lib.nDigits u) 24)).run Tryz.prog ((putRow (λ(b:UInt8)=>Value.int .u8 (b.toNat:Int)) (w.alloc<|.cells Lib.zeros24 410) w.heap.size 0 dk).drewN k)=.ok (.string ⟨(Lib.decDigits u).toArray⟩) ((putRow (λ(b:UInt8)=>Value.int .u8 (b.toNat:Int)) (w.alloc<|.cells Lib.zeros24 410) w.heap.size 0 dk).drewN k):=by
  have h:=run_convert_bytes_back (P:=Tryz.prog) ((putRow (λ(b:UInt8)=>Value.int .u8 (b.toNat:Int)) (w.alloc<|.cells Lib.zeros24 410) w.heap.size 0 dk).drewN k) 372 9 5 ⟨w.heap.size,0,none⟩ 24 (Lib.decDigits u) Tryz.underlying372 Tryz.underlying5 Tryz.underlying9 (λj hj=>by rw[Lib.row_is_numeral hF j hj,Lib.add_plain,World.cell?_drewN];exact cell?_putRow (λ(b:UInt8)=>Value.int .u8 (b.toNat:Int)) _ w.heap.size 0 _ dk HH0.out (by rw[hF.size,ais]) j<|by rw[hF.size];rw[Lib.decDigits_length]at hj;exact hj)
  rw[Lib.decDigits_length]at h;exact h
 go_wp2
 go_ret
 obtain⟨os,eo⟩:=ac4 w (.cells Lib.zeros24 410) dk k;exact⟨rfl,k,os,eo⟩
end Go.Proofs
namespace Go.Ai.Pg
open Go.Proofs Go.Ai Go.Ai.eE
def acK(u:Nat)(hu:u<2^64):aM Tryz.prog 335 [.n .u64 u,.i 10] (.s<|decl u 1):=by intro w S p j g hc;simp only[aB,Cells]at hc;obtain⟨y,r,A,z,rfl,t,_,d,m,q,x,v,rfl,l,_,a,rfl,rfl⟩:=hc;simp only[SV.den,Rel]at d a;obtain⟨_,rfl,rfl⟩:=d;obtain⟨_,rfl,rfl⟩:=a;refine vh.BJ (fn:=Tryz.f335) Tryz.func335 W W<|(Tryz.ac3 u hu w j).mono ?_;rintro e o⟨rfl,k,os,rfl⟩;have f:=LR w k os;exact⟨_,W,S,[],f,λ_ h=>h,λ_ h=>.inl h,λb c=>ae3 (g b c) f.size,by simp[SV.den,Rel,scalar,bs,decDigits_eq],ae5,I⟩
def acT(u:Nat)(hu:u<2^64):aM Tryz.prog 304 [.n .u64 u,.i 10] (.s<|decl u 1):=by refine bS Tryz.func304 W<|bP W W (acK u hu) W<|bN W W
def acs(c:UInt8)(t:hO)(hl:t.length<2^40):aM Tryz.prog 291 [.s<|c::t,.s [48]] (.u<|decide (c=48)):=by refine bS Tryz.func291 W<|bJ W 10 W (λh=>?_) λh=>absurd (show((1:Nat):Int)<=((t.length+1:Nat):Int)from E) h;refine r1 W (by simp only[bo,and_true,adX,aeg]<;>omega) ?_;refine aE W<|ar.of_eq<|congrArg SV.u ?_;have e:(List.drop 0 (List.take (([48]:hO).length:Int).toNat<|c::t))=[c]:=I;rw[e,decide_eq_decide];simp
def abK(c:UInt8)(t:hO)(hl:t.length<2^40):aM Tryz.prog 252 [.s<|c::t,.s [48]] (.u<|decide (c=48)):=by refine bS Tryz.func252 W<|bP W W (acs c t hl) W<|bN W W
def acH(n:Nat)(hn:n<=64):aM Tryz.prog 305 [.s [48],.i n] (.s<|List.replicate n 48):=by
 refine bS Tryz.func305 W<|bQ W W ?_ ?_<;>intro h
 ·have:n=0:=E;subst this;refine bN W W
 refine bQ W W ?_ ?_<;>intro b
 ·have:n=1:=E;subst this;refine bN W W
 refine bQ W W (λa=>absurd a E) λ_=>?_;refine kw [23,25] W W U<|JJ (us:=[.n .u64 (1:Nat),.n .u64 n]) W W U ⟨W,congrArg (SV.n .u64)<|wr E,U⟩ (Ip 1 n fh E) W ?_;rw[Nat.one_mul,afw (E:n<2^64),afy (E:n<2^64)];refine bJ W 31 W (λh=>absurd h fh) λ_=>?_;refine bQ W W (λh=>absurd h E) λ_=>?_;refine r1 W ba<|gb W (λh=>absurd h fh) λ_=>?_;refine r1 W (by simp only[bo,and_true]<;>decide) ?_;refine gb W (λh=>absurd h fh) λ_=>?_;refine bQ W W (λh=>absurd h fh) λ_=>?_;refine bQ W W (λ_=>?_) λh=>absurd W h;refine bQ W W (λ_=>?_) λh=>absurd W h;refine bJ W 52 W (λh=>?_) λh=>absurd (show(n:Int)<=128 from E) h;refine bP W W (abK _ _ fh) W<|bQ W W (λh=>absurd h fh) λ_=>?_;refine bJ W 61 W (λh=>?_) λh=>absurd (show(n:Int)<=128 from E) h;refine bP W W (abK _ _ fh) W<|bQ W W (λh=>absurd h fh) λ_=>?_;refine bJ W 70 W (λh=>?_) λh=>absurd (show(n:Int)<=64 from E) h;refine bP W W (abK _ _ fh) W<|bQ W W (λ_=>?_) λh=>absurd W h;refine r1 W (by simp only[bo,and_true]<;>simp<;>omega) ?_;refine aE W<|ar.of_eq<|congrArg SV.s ?_;show List.drop 0 (List.take (n:Int).toNat<|List.replicate 64 48)=_;rw[afG,afk,List.take_replicate,af3 hn]
end Go.Ai.Pg
section
namespace Go.Lib
open Go.Proofs
variable{P:Program}{w:World}
def abt(t u ty e:TypeId)(i:TypeInfo)(r:P.underlying t=some (.slice e))(hu:P.underlying u=some .string)(hi:P.info? e=some i)(y:i.zero=some (.int .u8 0))
 (a:i.size=1)(m:i.bytes=1)
 (v:Value)(n:Nat)(xs:List Value)(b:w.ownsRow 0 e 1 v n xs)(s:ByteArray)
 (o:n+s.size<=maxLen)(c:n+s.size<=140737488355328):
 ∃p w',(Builtin.append_ #[t,u] ty #[v,.string s]).run P w=.ok p w'/\w'.ownsRow 0 e 1 p (n+s.size) (xs++strCells s)/\w.grownBy w' v.ownBlock/\(∀g,p.ownBlock=some g->v.ownBlock=some g\/w.heap.size<=g):=by
 obtain⟨p,w',x,O,N,S⟩:=run_append_own_string (P:=P) w 0 t u ty e i r hu hi y a m v n xs b s o c<|adk _;refine⟨p,w',x,O,N,λT d=>?_⟩;have z:xs.length=n:=by simpa using b.1
 rcases b.2 with⟨rfl,rfl⟩|⟨g,f,q,rfl,L,J,H,K,B,A⟩
 ·have l:w.ownsRow w.heap.size e 1 (.slice none 0 0) 0 xs:=⟨b.1,.inl G⟩;obtain⟨R,Q,k1,k2,-,-⟩:=run_append_own_string (P:=P) w w.heap.size t u ty e i r hu hi y a m _ 0 xs l s o c<|adp _;rw[x]at k1;simp only[Result.ok.injEq]at k1;obtain⟨rfl,rfl⟩:=k1;right;rcases k2.2 with⟨rfl,-⟩|⟨g2,F,D,rfl,M,-⟩
  ·simp[Value.ownBlock]at d
  simp only[Value.ownBlock,ada]at d;omega
 by_cases h:n+s.size<=f
 ·have C:q.size=f:=by simpa using B
  have k:=run_append_room_string (P:=P) (w:=w) t u ty e i r hu hi a g n f q J s h E;rw[x]at k;simp only[Result.ok.injEq]at k;obtain⟨rfl,-⟩:=k;left;simpa[Value.ownBlock]using d
 have holds:∀j u,xs[j]?=some u->w.cell? ((⟨g,0,none⟩:Addr).add j)=some u:=b.cells (g:=g) W;have k:=run_append_grow_string (P:=P) (w:=w) t u ty e i (.int .u8 0) r hu hi y ⟨g,0,none⟩ n f xs (by rw[a];simpa using z) holds s E (by simp only[maxLen]at o;omega) (by rw[m];exact growslice_fits E E);rw[x]at k;simp only[Result.ok.injEq]at k;obtain⟨rfl,-⟩:=k;right;simp only[Value.ownBlock,ada]at d;omega
def aa7{ops:Array Oper}{rest:List Oper}{o:Oper}{a:Act}{Q:Exit->Act->World->Prop}(l:o.guard=none)(sl x:Operand)(t u:TypeId)
 (A:o.op=.call {callee:=.builtin .append,args:=#[sl,x],argTypes:=#[t,u]})
 (e:TypeId)(i:TypeInfo)(y:P.underlying t=some (.slice e))(hu:P.underlying u=some .string)(hi:P.info? e=some i)(q:i.zero=some (.int .u8 0))
 (c:i.size=1)(m:i.bytes=1)
 (v:Value)(n:Nat)(k:List Value)(hs:a.eval sl=v)(j:w.ownsRow 0 e 1 v n k)(s:ByteArray)(r:a.eval x=.string s)
 (p:n+s.size<=maxLen)(b:n+s.size<=140737488355328)
 (h:∀f d,d.ownsRow 0 e 1 f (n+s.size) (k++strCells s)->w.grownBy d v.ownBlock->(∀g,f.ownBlock=some g->v.ownBlock=some g\/w.heap.size<=g)->wpList P ops Q rest (a.put o.dst f) d):wpList P ops Q (o::rest) a w:=by
 refine wpList_plain l λK B=>?_;obtain⟨f,d,z,F,D,C⟩:=abt (P:=P) (w:=w) t u o.type e i y hu hi q c m v n k j s p b;unfold Oper.wp execOp;simp only[A,resolve,invoke,builtin,Sem.run_bind,Sem.run_pure,Result.andThen_ok,List.map_toArray,afc,afZ,hs,r,z];exact B _ _<|h f d F D C
end Go.Lib
end
