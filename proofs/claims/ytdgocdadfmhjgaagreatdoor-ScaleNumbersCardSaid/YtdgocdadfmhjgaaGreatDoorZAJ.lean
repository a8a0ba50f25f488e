/- Parts of the proof of ScaleNumbers (CheckBench, Exponent and Largest answer as the reference does), at every input, with no further conditions. -/
import Derived.Test.YtdgocdadfmhjgaaGreatDoorZAI
import Derived.Lib.ItoaMem
set_option linter.unusedVariables false
set_option linter.unusedSimpArgs false
section
namespace Go.Proofs
open Go.Shelf
def Tryz.aac:Go.Shelf.Ren:=⟨fun|283=>271|n=>n,fun|3=>3|9=>9|4=>4|n=>n,fun|n=>n⟩
theorem Tryz.aai:Go.Proofs.Lays.n283 Tryz.prog Tryz.aac where
 mixed:=by kernel_rfl
 f283:=Tryz.func271.trans (congrArg some (by kernel_rfl))
 t3:=Tryz.underlying3
 a3:=Tryz.isAgg3
 z3:=Tryz.sizeOf3
 v3:=Tryz.zeroValue3
 t4:=Tryz.underlying4
 a4:=Tryz.isAgg4
 z4:=Tryz.sizeOf4
 v4:=Tryz.zeroValue4
 t9:=Tryz.underlying9
 a9:=Tryz.isAgg9
 z9:=Tryz.sizeOf9
 v9:=Tryz.zeroValue9
def Tryz.aab:Go.Shelf.Ren:=⟨fun|284=>272|129=>195|317=>288|318=>289|n=>n,fun|53=>253|3=>3|212=>352|0=>0|4=>4|46=>192|5=>5|9=>9|n=>n,fun|17=>5|n=>n⟩
theorem Tryz.aah:Go.Proofs.LaysM.n284 Tryz.prog Tryz.aab where
 mixed:=by kernel_rfl
 f129:=Tryz.func195.trans (congrArg some (by kernel_rfl))
 f284:=Tryz.func272.trans (congrArg some (by kernel_rfl))
 f317:=Tryz.func288.trans (congrArg some (by kernel_rfl))
 f318:=Tryz.func289.trans (congrArg some (by kernel_rfl))
 t0:=Tryz.underlying0
 a0:=Tryz.isAgg0
 z0:=Tryz.sizeOf0
 v0:=Tryz.zeroValue0
 t3:=Tryz.underlying3
 a3:=Tryz.isAgg3
 z3:=Tryz.sizeOf3
 v3:=Tryz.zeroValue3
 t4:=Tryz.underlying4
 a4:=Tryz.isAgg4
 z4:=Tryz.sizeOf4
 v4:=Tryz.zeroValue4
 t5:=Tryz.underlying5
 a5:=Tryz.isAgg5
 z5:=Tryz.sizeOf5
 v5:=Tryz.zeroValue5
 t9:=Tryz.underlying9
 a9:=Tryz.isAgg9
 z9:=Tryz.sizeOf9
 v9:=Tryz.zeroValue9
 t46:=Tryz.underlying192
 a46:=Tryz.isAgg192
 z46:=Tryz.sizeOf192
 v46:=Tryz.zeroValue192
 t53:=Tryz.underlying253
 a53:=Tryz.isAgg253
 z53:=Tryz.sizeOf253
 v53:=Tryz.zeroValue253
 t212:=Tryz.underlying352
 a212:=Tryz.isAgg352
 z212:=Tryz.sizeOf352
 v212:=Tryz.zeroValue352
 g17:=by kernel_rfl
 i0:=by kernel_rfl
 i3:=by kernel_rfl
 i4:=by kernel_rfl
 i5:=by kernel_rfl
 i9:=by kernel_rfl
 i46:=by kernel_rfl
 i53:=by kernel_rfl
 i212:=by kernel_rfl
 m17:=by kernel_rfl
def Tryz.aaa:Go.Shelf.Ren:=⟨fun|285=>273|n=>n,fun|37=>277|53=>253|3=>3|4=>4|51=>250|9=>9|5=>5|0=>0|n=>n,fun|n=>n⟩
theorem Tryz.aag:Go.Proofs.Lays.n285 Tryz.prog Tryz.aaa where
 mixed:=by kernel_rfl
 f285:=Tryz.func273.trans (congrArg some (by kernel_rfl))
 t0:=Tryz.underlying0
 a0:=Tryz.isAgg0
 z0:=Tryz.sizeOf0
 v0:=Tryz.zeroValue0
 t3:=Tryz.underlying3
 a3:=Tryz.isAgg3
 z3:=Tryz.sizeOf3
 v3:=Tryz.zeroValue3
 t4:=Tryz.underlying4
 a4:=Tryz.isAgg4
 z4:=Tryz.sizeOf4
 v4:=Tryz.zeroValue4
 t5:=Tryz.underlying5
 a5:=Tryz.isAgg5
 z5:=Tryz.sizeOf5
 v5:=Tryz.zeroValue5
 t9:=Tryz.underlying9
 a9:=Tryz.isAgg9
 z9:=Tryz.sizeOf9
 v9:=Tryz.zeroValue9
 t37:=Tryz.underlying277
 a37:=Tryz.isAgg277
 z37:=Tryz.sizeOf277
 v37:=Tryz.zeroValue277
 t51:=Tryz.underlying250
 a51:=Tryz.isAgg250
 z51:=Tryz.sizeOf250
 v51:=Tryz.zeroValue250
 t53:=Tryz.underlying253
 a53:=Tryz.isAgg253
 z53:=Tryz.sizeOf253
 v53:=Tryz.zeroValue253
open Go.Shelf Go.RowKit Go.Sort Go.Lib
theorem Tryz.HE(i:Nat)(h:i<100)(w:World):Calls Tryz.prog 271 #[.int .i64 i] w fun e w'=>e=.returned (.string ⟨(Lib.decDigits i).toArray⟩)/\w'=w:=Any.internal_strconv_small Tryz.aai i h w
theorem Tryz.GF(u:Nat)(h1:1<=u)(h2:u<18446744073709551616)(w:World)(VC:Lib.TabIs Tryz.prog w "internal/strconv.uint64pow10" .u64 Lib.pow10Tab):Calls Tryz.prog 272 #[.int .u64 u] w fun e w'=>e=.returned (.int .i64 (Lib.nDigits u))/\w'=w:=Any.internal_strconv_numDigits Tryz.aah u h1 h2 w VC
end Go.Proofs
end
namespace Go.Proofs
open Go.Shelf Go.RowKit Go.Sort Go.Lib
theorem FP(w:World)(T:TypeId)(nd:Nat)(hs:nd<=24):Holds (fun(b:UInt8)=>Value.int .u8 (b.toNat:Int)) (w.alloc (.cells zeros24 T)) w.heap.size 0 (Array.replicate nd (0:UInt8)):=fun j hj=>by
 have QE:j<nd:=by simpa using hj
 refine⟨?_,World.frozen?_alloc_new _ _ _ _⟩;rw[World.cell?_alloc_new,zeros24_at _ (by omega),getElem!_pos _ j hj];simp
theorem ac5(w:World)(o:Obj)(dk:Array UInt8)(k:Nat):∃os,(putRow (fun(b:UInt8)=>Value.int .u8 (b.toNat:Int)) (w.alloc o) w.heap.size 0 dk).drewN k=grow (w.drewN k) os:=by rw[alloc_eq_grow];obtain⟨os',_,e⟩:=putRow_grow_new (fun(b:UInt8)=>Value.int .u8 (b.toNat:Int)) w #[o] w.heap.size 0 dk (Nat.le_refl _);exact⟨os',by rw[e];rfl⟩
set_option maxHeartbeats 6400000 in
set_option maxRecDepth 100000 in
theorem Tryz.ac4(u:Nat)(VA:u<18446744073709551616)(w:World)(VC:Lib.TabIs Tryz.prog w "internal/strconv.uint64pow10" .u64 Lib.pow10Tab):
 Calls Tryz.prog 246 #[.int .u64 u,.int .i64 10] w fun e w'=>e=.returned (.string ⟨(Lib.decDigits u).toArray⟩)/\∃k os,w'=grow (w.drewN k) os:=by
 by_cases hs:u<100
 ·go_enter Tryz.func246,Tryz.ntmps246
  go_wp2_with (go_at_call 271;refine(Tryz.HE u hs _).mono ?_;rintro e w'⟨rfl,rfl⟩)
  go_ret
  exact⟨rfl,0,#[],by simp[World.drewN_zero]⟩
 have OK:1<=u:=by omega
 have adZ:Lib.nDigits u<=20:=by have:=Lib.numDigits_eq u OK VA;split at this<;>omega
 have Wd:Tryz.prog.arrayLen 329=24:=by simp[Program.arrayLen,Tryz.underlying329]
 have af7:∀W,(Instr.sliceAt 329 (.pointer (some ⟨w.heap.size,0,none⟩)) none (some (.int .i64 (Lib.nDigits u:Int))) none).run Tryz.prog W=.ok (.slice (some ⟨w.heap.size,0,none⟩) (Lib.nDigits u) 24) W:=fun W=>by
  rw[run_sliceAt_array_h W 329 ⟨w.heap.size,0,none⟩ (by simp[Program.arrayLen,Program.elem,Tryz.underlying329]) .i64 (Lib.nDigits u:Int) (by omega) (by rw[Wd];omega)]
  go_simp
  try omega
 have hH0:=FP w 329 (Lib.nDigits u) (by omega);have Sb:=Any.internal_strconv_formatBase10 Tryz.aag w.heap.size 0 24 u (Array.replicate (Lib.nDigits u) 0) (w.alloc (.cells Lib.zeros24 329)) hH0 (by rw[Array.size_replicate];exact Lib.lt_pow_nDigits u) VA (by rw[Array.size_replicate];omega);rw[Array.size_replicate]at Sb;have Sb:Calls Tryz.prog 273 #[.slice (some ⟨w.heap.size,0,none⟩) (Lib.nDigits u) 24,.int .u64 u] (w.alloc (.cells Lib.zeros24 329)) _:=Sb;have HH0:=Lib.hid hH0;clear hH0 Wd
 go_enter Tryz.func246,Tryz.ntmps246
 go_wp2_with (first
  |(go_at_call 272;refine(Tryz.GF u OK VA _ (Lib.tabIs_alloc VC _)).mono ?_;rintro e w'⟨rfl,rfl⟩))
 go_at_call 273
 refine Sb.mono ?_;rintro e w'⟨rfl,k,v',dk,rfl,hF⟩;have hcv:(convert 277 9 (.slice (some ⟨w.heap.size,0,none⟩) (Lib.nDigits u) 24)).run Tryz.prog ((putRow (fun(b:UInt8)=>Value.int .u8 (b.toNat:Int)) (w.alloc (.cells Lib.zeros24 329)) w.heap.size 0 dk).drewN k)=.ok (.string ⟨(Lib.decDigits u).toArray⟩) ((putRow (fun(b:UInt8)=>Value.int .u8 (b.toNat:Int)) (w.alloc (.cells Lib.zeros24 329)) w.heap.size 0 dk).drewN k):=by
  have h:=run_convert_bytes_back (P:=Tryz.prog) ((putRow (fun(b:UInt8)=>Value.int .u8 (b.toNat:Int)) (w.alloc (.cells Lib.zeros24 329)) w.heap.size 0 dk).drewN k) 277 9 5 ⟨w.heap.size,0,none⟩ 24 (Lib.decDigits u) Tryz.underlying277 Tryz.underlying5 Tryz.underlying9 (fun j hj=>by rw[Lib.row_is_numeral hF j hj,Lib.add_plain,World.cell?_drewN];exact cell?_putRow (fun(b:UInt8)=>Value.int .u8 (b.toNat:Int)) _ w.heap.size 0 _ dk HH0.out (by rw[hF.size,Array.size_replicate]) j (by rw[hF.size];rw[Lib.decDigits_length]at hj;exact hj))
  rw[Lib.decDigits_length]at h;exact h
 go_wp2
 go_ret
 obtain⟨os,eo⟩:=ac5 w (.cells Lib.zeros24 329) dk k;exact⟨rfl,k,os,eo⟩
end Go.Proofs
namespace Go.Ai
open Go.Proofs
set_option maxRecDepth 100000
theorem pY(xs:List Int)(i:Nat):aO Tryz.prog 277 [.ints .i64 false xs,.i i] (.i (xs.getD i 0)):=by
 refine enter (fn:=Tryz.f277) Tryz.func277 rfl rfl rfl rfl ?_;refine r0 rfl ?_;refine br rfl rfl rfl (fun h=>?_) (fun h=>?_)
 ·refine r1 rfl ⟨by omega,by omega,by omega,trivial⟩ ?_;exact aF rfl rfl
 refine r0 rfl ?_;refine aF rfl ?_;simp[au,x6,gt,List.getD_eq_getElem?_getD,List.getElem?_eq_none (show xs.length<=i by omega)]
theorem xk(m n:Nat)(h1:(aa m).length<2^40)(h2:(aa n).length<2^40):aO Tryz.prog 250 [.ints .i64 false (aa m),.ints .i64 false (aa n)] (.ints .i64 true (aa (m+n))):=by
 refine enter (fn:=Tryz.f250) Tryz.func250 rfl rfl rfl rfl ?_;refine r0 rfl ?_;refine mA (fun(i:Nat)(out:List Int)(c:Int)=>[(0,.ints .i64 false (aa m)),(1,.ints .i64 false (aa n)),(5,.ints .i64 true out),(6,.i c),(7,.i i)])
  (fun i out c=>fD out/\out.length=i/\0<=c/\c<=1/\val out+c*1000000000^i=val ((aa m).take i)+val ((aa n).take i)/\(i<=(aa m).length\/i<=(aa n).length\/(c=0/\out.getLast?≠some 0/\i<=(aa m).length+(aa n).length+1)))
  (fun i _ _=>(aa m).length+(aa n).length+2-i) 0 [] 0 ⟨by simp[fD],rfl,by omega,by omega,by simp[val],by omega⟩ ⟨⟨rfl,rfl⟩,⟨rfl,rfl⟩,⟨rfl,rfl⟩,⟨rfl,rfl⟩,⟨rfl,rfl⟩,trivial⟩ ?_
 rintro i out c⟨hd,hl,c0,c1,hv,hi⟩;refine D9 (Wz [(0,.ints .i64 false (aa m)),(1,.ints .i64 false (aa n)),(5,.ints .i64 true out),(6,.i c),(7,.i i)] (i<(aa m).length\/i<(aa n).length\/0<c) ?_ fun cB=>?_)
 ·refine r0 rfl ?_;refine aB 13 rfl (fun h=>?_) (fun h=>?_)
  ·refine r0 rfl ?_;exact aQ (by omega) ⟨⟨rfl,rfl⟩,⟨rfl,rfl⟩,⟨rfl,rfl⟩,⟨rfl,rfl⟩,⟨rfl,rfl⟩,trivial⟩
  refine r0 rfl ?_;refine aB 19 rfl (fun h=>?_) (fun h=>?_)
  ·refine r0 rfl ?_;exact aQ (by omega) ⟨⟨rfl,rfl⟩,⟨rfl,rfl⟩,⟨rfl,rfl⟩,⟨rfl,rfl⟩,⟨rfl,rfl⟩,trivial⟩
  refine r0 rfl ?_;refine br rfl rfl rfl (fun h=>?_) (fun h=>?_)
  ·refine r0 rfl ?_;exact aQ (by omega) ⟨⟨rfl,rfl⟩,⟨rfl,rfl⟩,⟨rfl,rfl⟩,⟨rfl,rfl⟩,⟨rfl,rfl⟩,trivial⟩
  refine r0 rfl ?_;refine aF rfl ?_;have hc:c=0:=by omega
  rw[List.take_of_length_le (by omega),List.take_of_length_le (by omega),aX,aX,hc]at hv;have hz:out.getLast?≠some 0:=by
   have g1:=eM m;have g2:=eM n;rcases hi with hi|hi|hi
   ·refine yO hd ?_;have:i=(aa m).length:=by omega
    rw[hl,this];rcases g1 with g1|g1
    ·left;rw[g1]at this;exact List.length_eq_zero_iff.1 (by simpa[hl]using this)
    right;omega
   ·refine yO hd ?_;have:i=(aa n).length:=by omega
    rw[hl,this];rcases g2 with g2|g2
    ·left;rw[g2]at this;exact List.length_eq_zero_iff.1 (by simpa[hl]using this)
    right;omega
   exact hi.2.1
  show SV.ints .i64 true out=_;rw[qD hd hz (n:=m+n) (by omega)]
 have e1:=aU (a8 m) i;have e2:=aU (a8 n) i;refine r0 rfl ?_;refine cl rfl rfl (pY _ _) rfl ?_;refine r0 rfl ?_;refine cl rfl rfl (pY _ _) rfl ?_;generalize hx:(aa m).getD i 0=x at*;generalize hy:(aa n).getD i 0=y at*;refine r1 rfl ?_ ?_
 ·simp only[ae,and_true,List.length_cons,List.length_nil];omega
 refine again (i+1,out++[(x+y+c)%1000000000],(x+y+c)/1000000000) ?_ ?_ ?_
 ·dsimp only;omega
 ·dsimp only;refine⟨gG hd (by omega),by simp[hl],by omega,by omega,?_,?_⟩
  ·rw[dw,hl,aA,aA,hx,hy,Int.pow_succ];have:=Int.mul_ediv_add_emod (x+y+c) 1000000000;generalize (1000000000:Int)^i=B at*
   grind
  by_cases h3:i<(aa m).length
  ·omega
  by_cases h4:i<(aa n).length
  ·omega
  right;right;have hx0:x=0:=by rw[<-hx];simp[List.getD_eq_getElem?_getD,List.getElem?_eq_none (show(aa m).length<=i by omega)]
  have BZ:y=0:=by rw[<-hy];simp[List.getD_eq_getElem?_getD,List.getElem?_eq_none (show(aa n).length<=i by omega)]
  have hc:c=1:=by omega
  subst hx0 BZ hc;exact⟨by decide,by simp,by omega⟩
 exact⟨⟨rfl,rfl⟩,⟨rfl,rfl⟩,⟨rfl,rfl⟩,⟨rfl,rfl⟩,⟨rfl,rfl⟩,trivial⟩
theorem cC(xs:List Int)(hx:xs.length<2^60):aO Tryz.prog 209 [.ints .i64 false xs] (.ints .i64 false (bY xs)):=by
 refine enter (fn:=Tryz.f209) Tryz.func209 rfl rfl rfl rfl ?_;refine r0 rfl ?_;refine loop (fun w:List Int=>[(0,.ints .i64 false w)]) (fun w=>bY w=bY xs/\w.length<=xs.length) (fun w=>w.length) xs ⟨rfl,Nat.le_refl _⟩ ⟨⟨rfl,rfl⟩,trivial⟩ ?_;rintro w⟨hw,hl⟩;refine r0 rfl ?_;refine aB 6 rfl (fun h=>?_) (fun h=>?_)
 ·refine r1 rfl (by simp only[ae,and_true];omega) ?_;refine br rfl rfl rfl (fun h0=>?_) (fun h0=>?_)
  ·refine r1 rfl (by simp only[ae,and_true];omega) ?_;have e:((w.drop 0).take ((((w.length:Nat):Int)-1).toNat-0))=w.take (w.length-1):=by
    rw[List.drop_zero];congr 1;omega
   refine again (w.take (w.length-1)) ?_ ⟨?_,?_⟩ ⟨⟨rfl,au.of_eq (congrArg (SV.ints .i64 false) e)⟩,trivial⟩
   ·simp;omega
   ·rw[<-hw];refine rC (by omega) ?_;have:((((w.length:Nat):Int)-1).toNat)=w.length-1:=by omega
    rw[this]at h0;exact h0
   simp;omega
  refine r0 rfl ?_;refine aF rfl ?_;rw[<-hw];refine au.of_eq (congrArg (SV.ints .i64 false) (lp ?_).symm);intro hl;have:((((w.length:Nat):Int)-1).toNat)=w.length-1:=by omega
  rw[this]at h0;rw[List.getLast?_eq_getElem?]at hl;apply h0;rw[List.getD_eq_getElem?_getD,hl];rfl
 refine r0 rfl ?_;refine aF rfl ?_;have:w=[]:=List.length_eq_zero_iff.1 (by omega);subst this;rw[<-hw];rfl
theorem kz(m n:Nat)(h1:(aa m).length<2^60)(h2:(aa n).length<2^60):aO Tryz.prog 207 [.ints .i64 false (aa m),.ints .i64 false (aa n)] (.i (l9 m n)):=by
 refine enter (fn:=Tryz.f207) Tryz.func207 rfl rfl rfl rfl ?_;refine r0 rfl ?_;refine br rfl rfl rfl (fun h=>?_) (fun h=>?_)
 ·refine r0 rfl ?_;refine br rfl rfl rfl (fun h3=>?_) (fun h3=>?_)
  ·refine r0 rfl ?_;refine aF rfl (au.of_eq (congrArg SV.i ?_));have:=bz (m:=m) (n:=n) (by omega);simp[l9,this]
  refine r0 rfl ?_;refine aF rfl (au.of_eq (congrArg SV.i ?_));have:=bz (m:=n) (n:=m) (by omega);simp only[l9];rw[if_neg (by omega),if_pos this]
 have hl:(aa m).length=(aa n).length:=by omega
 refine r1 rfl (by simp only[ae,and_true];omega) ?_;refine loop (fun i:Nat=>[(0,.ints .i64 false (aa m)),(1,.ints .i64 false (aa n)),(5,.i ((i:Int)-1))]) (fun i=>i<=(aa m).length/\(aa m).drop i=(aa n).drop i) (fun i=>i) (aa m).length ⟨by omega,?_⟩
  ⟨⟨rfl,rfl⟩,⟨rfl,rfl⟩,⟨rfl,rfl⟩,trivial⟩ ?_
 ·rw[List.drop_of_length_le (Nat.le_refl _),List.drop_of_length_le (by omega)]
 rintro i⟨hi,hd⟩;refine r0 rfl ?_;refine br rfl rfl rfl (fun h3=>?_) (fun h3=>?_)
 ·obtain⟨k,rfl⟩:∃k,i=k+1:=⟨i-1,by omega⟩;have ek:(((k+1:Nat):Int)-1)=(k:Int):=by omega
  have et:(((k+1:Nat):Int)-1).toNat=k:=by omega
  refine k1 rfl (by kernel_rfl) (by simp only[ae,and_true];omega) ?_;refine br rfl rfl rfl (fun h4=>?_) (fun h4=>?_)
  ·rw[et]at h4;refine r0 rfl ?_;refine aF rfl (au.of_eq (congrArg SV.i ?_));have:=j6 (by omega) hl hd h4;simp[l9,this]
  refine k1 rfl (by kernel_rfl) (by simp only[ae,and_true];omega) ?_;refine br rfl rfl rfl (fun h5=>?_) (fun h5=>?_)
  ·rw[et]at h5;refine r0 rfl ?_;refine aF rfl (au.of_eq (congrArg SV.i ?_));have:=j6 (by omega) hl.symm hd.symm h5;simp only[l9];rw[if_neg (by omega),if_pos this]
  rw[et]at h4 h5;refine r1 rfl (by simp only[ae,and_true];omega) ?_;refine again k ?_ ⟨by omega,?_⟩ ⟨⟨rfl,rfl⟩,⟨rfl,rfl⟩,⟨rfl,au.of_eq (congrArg SV.i (by omega))⟩,trivial⟩
  ·exact Nat.lt_succ_self _
  have e:(aa m).getD k 0=(aa n).getD k 0:=by omega
  rw[List.drop_eq_getElem_cons (show k<(aa m).length by omega),List.drop_eq_getElem_cons (show k<(aa n).length by omega),hd]
  congr 1
  simpa[List.getD_eq_getElem?_getD,List.getElem?_eq_getElem (show k<(aa m).length by omega),List.getElem?_eq_getElem (show k<(aa n).length by omega)]using e
 have:i=0:=by omega
 subst this;refine r0 rfl ?_;refine aF rfl (au.of_eq (congrArg SV.i ?_));have e:aa m=aa n:=by simpa using hd
 have:m=n:=by have:=congrArg val e;rw[aX,aX]at this;omega
 simp[l9,this]
theorem oI(m n:Nat)(h1:(aa m).length<2^40)(hn:n<=m):aO Tryz.prog 251 [.ints .i64 false (aa m),.ints .i64 false (aa n)] (.ints .i64 false (aa (m-n))):=by
 have hle:(aa n).length<=(aa m).length:=by
  rcases Nat.lt_or_ge (aa m).length (aa n).length with h|h
  ·have:=bz h;omega
  exact h
 refine enter (fn:=Tryz.f251) Tryz.func251 rfl rfl rfl rfl ?_;refine r0 rfl ?_;refine mA (fun(i:Nat)(out:List Int)(c:Int)=>[(0,.ints .i64 false (aa m)),(1,.ints .i64 false (aa n)),(5,.ints .i64 true out),(6,.i c),(7,.i i)])
  (fun i out c=>fD out/\out.length=i/\0<=c/\c<=1/\val out-c*1000000000^i=val ((aa m).take i)-val ((aa n).take i)/\i<=(aa m).length)
  (fun i _ _=>(aa m).length-i) 0 [] 0 ⟨by simp[fD],rfl,by omega,by omega,by simp[val],by omega⟩ ⟨⟨rfl,rfl⟩,⟨rfl,rfl⟩,⟨rfl,rfl⟩,⟨rfl,rfl⟩,⟨rfl,rfl⟩,trivial⟩ ?_
 rintro i out c⟨hd,hl,c0,c1,hv,hi⟩;refine r0 rfl ?_;refine br rfl rfl rfl (fun h=>?_) (fun h=>?_)
 ·have e1:=aU (a8 m) i;have e2:=aU (a8 n) i;refine r1 rfl (by simp only[ae,and_true];omega) ?_;refine cd rfl rfl (pY _ _) rfl ?_;have ei:(i:Int).toNat=i:=by omega
  generalize hx:(aa m).getD i 0=x at*;have LY:(aa m).getD (i:Int).toNat 0=x:=hx;generalize hy:(aa n).getD i 0=y at*;refine k1 rfl (by kernel_rfl) (by simp only[ae,and_true,LY];omega) ?_;refine br rfl rfl rfl (fun h3=>?_) (fun h3=>?_)
  ·rw[LY]at h3;refine r1 rfl (by simp only[ae,and_true,LY,List.length_cons,List.length_nil];omega) ?_;refine again (i+1,out++[x-y-c+1000000000],1) ?_ ⟨gG hd (by omega),by simp[hl],by dsimp only;omega,by dsimp only;omega,?_,by dsimp only;omega⟩ ⟨⟨rfl,rfl⟩,⟨rfl,rfl⟩,⟨rfl,?_⟩,⟨rfl,rfl⟩,⟨rfl,rfl⟩,trivial⟩
   ·dsimp only;omega
   ·dsimp only;rw[dw,hl,aA,aA,hx,hy,Int.pow_succ];generalize (1000000000:Int)^i=B at*
    grind
   rw[<-LY];rfl
  rw[LY]at h3;refine r1 rfl (by simp only[ae,and_true,LY,List.length_cons,List.length_nil];omega) ?_;refine again (i+1,out++[x-y-c],0) ?_ ⟨gG hd (by omega),by simp[hl],by dsimp only;omega,by dsimp only;omega,?_,by dsimp only;omega⟩ ⟨⟨rfl,rfl⟩,⟨rfl,rfl⟩,⟨rfl,?_⟩,⟨rfl,rfl⟩,⟨rfl,rfl⟩,trivial⟩
  ·dsimp only;omega
  ·dsimp only;rw[dw,hl,aA,aA,hx,hy,Int.pow_succ];generalize (1000000000:Int)^i=B at*
   grind
  rw[<-LY];rfl
 refine r0 rfl ?_;have L9:i=(aa m).length:=by omega
 rw[List.take_of_length_le (by omega),List.take_of_length_le (by omega),aX,aX]at hv;have cB:=fI hd;rw[hl]at cB;have hp:=bV i;have hc:c=0:=by
  rcases(show c=0\/c=1 by omega)with h|h
  ·exact h
  subst h;omega
 subst hc;refine cl rfl rfl (cC _ (by omega)) rfl ?_;refine r0 rfl ?_;refine aF rfl (au.of_eq (congrArg (SV.ints .i64 false) ?_));rw[c7 hd]
 congr 1;omega
theorem pV(m d:Nat)(h1:(aa m).length<2^40)(Sg:0<d)(V5:d<1000000000):aO Tryz.prog 208 [.ints .i64 false (aa m),.i d] (.bC [.ints .i64 false (aa (m/d)),.i ((m%d:Nat):Int)]):=by
 refine enter (fn:=Tryz.f208) Tryz.func208 rfl rfl rfl rfl ?_;refine r1 rfl (by simp only[ae,and_true];omega) ?_;refine mA (fun(i:Nat)(out:List Int)(c:Int)=>[(0,.ints .i64 false (aa m)),(1,.i d),(6,.ints .i64 true out),(7,.i c),(8,.i ((i:Int)-1))])
  (fun i out c=>fD out/\out.length=(aa m).length/\0<=c/\c<d/\val ((aa m).drop i)=val (out.drop i)*d+c/\i<=(aa m).length)
  (fun i _ _=>i) (aa m).length (List.replicate (aa m).length 0) 0 ⟨dI _,by simp,by omega,by omega,?_,by omega⟩ ⟨⟨rfl,rfl⟩,⟨rfl,rfl⟩,⟨rfl,rfl⟩,⟨rfl,rfl⟩,⟨rfl,rfl⟩,trivial⟩ ?_
 ·rw[List.drop_of_length_le (Nat.le_refl _),List.drop_of_length_le (by simp)];simp[val]
 rintro i out c⟨hd,hl,c0,c1,hv,hi⟩;refine r0 rfl ?_;refine br rfl rfl rfl (fun h=>?_) (fun h=>?_)
 ·obtain⟨k,rfl⟩:∃k,i=k+1:=⟨i-1,by omega⟩;have e1:=aU (a8 m) k;have et:(((k+1:Nat):Int)-1).toNat=k:=by omega
  have ex:(aa m).getD (((k+1:Nat):Int)-1).toNat 0=(aa m).getD k 0:=by rw[et]
  generalize hx:(aa m).getD k 0=x at*;have q0:0<=(c*1000000000+x)/d:=Int.ediv_nonneg (by omega) (by omega);have q1:(c*1000000000+x)/d<1000000000:=by refine Int.ediv_lt_of_lt_mul (by omega) ?_;have:(c+1)*1000000000<=d*1000000000:=Int.mul_le_mul_of_nonneg_right (by omega) (by omega);omega
  have q2:=Int.emod_nonneg (c*1000000000+x) (show(d:Int)≠0 by omega);have q3:=Int.emod_lt_of_pos (c*1000000000+x) (show(0:Int)<d by omega);have q4:=Int.mul_ediv_add_emod (c*1000000000+x) d;refine r1 rfl (by simp only[ae,and_true,ex,hl,et];omega) ?_;refine again (k,out.set k ((c*1000000000+x)/d),(c*1000000000+x)%d) ?_ ⟨du hd ⟨q0,q1⟩,by simpa using hl,q2,q3,?_,by dsimp only;omega⟩
   ⟨⟨rfl,rfl⟩,⟨rfl,rfl⟩,⟨rfl,au.of_eq (congrArg (SV.ints .i64 true) (by rw[ex,et]))⟩,⟨rfl,au.of_eq (congrArg SV.i (by rw[ex]))⟩,⟨rfl,au.of_eq (congrArg SV.i (by omega))⟩,trivial⟩
  ·exact Nat.lt_succ_self _
  dsimp only;have hk:k<(aa m).length:=by omega
  have MR:(aa m)[k]=x:=by simpa[List.getD_eq_getElem?_getD,List.getElem?_eq_getElem hk]using hx
  rw[List.drop_eq_getElem_cons hk,List.drop_eq_getElem_cons (show k<(out.set k ((c*1000000000+x)/d)).length by simp;omega),MR];simp only[List.getElem_set_self,val,List.drop_set_of_lt (Nat.lt_succ_self k),hv];generalize (c*1000000000+x)/d=q at*;generalize (c*1000000000+x)%d=r at*;generalize val (out.drop (k+1))=V at*
  grind
 have:i=0:=by omega
 subst this;simp only[List.drop_zero,aX]at hv;refine r0 rfl ?_;refine cl rfl rfl (cC _ (by omega)) rfl ?_;refine r0 rfl ?_;have hq:val out=((m/d:Nat):Int):=by
  have h0:=aT hd;have:(m:Int)/d=val out:=by rw[hv,Int.add_comm,Int.add_mul_ediv_right _ _ (by omega),Int.ediv_eq_zero_of_lt c0 c1];omega
  rw[<-this];simp
 have hr:c=((m%d:Nat):Int):=by
  have:(m:Int)%d=c:=by rw[hv,Int.add_comm,Int.add_mul_emod_self_right,Int.emod_eq_of_lt c0 c1]
  rw[<-this];simp
 refine aF rfl ⟨au.of_eq (congrArg (SV.ints .i64 false) ?_),au.of_eq (congrArg SV.i hr),trivial⟩;rw[c7 hd,hq];rfl
theorem kp(m n:Nat)(h1:(aa m).length<2^40)(h2:(aa n).length<2^40):aO Tryz.prog 182 [.ints .i64 false (aa m),.ints .i64 false (aa n)] (.ints .i64 false (aa (m*n))):=by
 refine enter (fn:=Tryz.f182) Tryz.func182 rfl rfl rfl rfl ?_;refine r1 rfl (by simp only[ae,and_true];omega) ?_;refine lP (fun(i:Nat)(out:List Int)=>[(0,.ints .i64 false (aa m)),(1,.ints .i64 false (aa n)),(5,.ints .i64 true out),(6,.i i)])
  (fun i out=>fD out/\out.length=(aa m).length+(aa n).length/\val out=val ((aa m).take i)*n/\i<=(aa m).length/\∀k,i+(aa n).length<=k->out.getD k 0=0)
  (fun i _=>(aa m).length-i) 0 (List.replicate ((aa m).length+(aa n).length) 0) ⟨dI _,by simp,by simp[val,gi],by omega,fun k _=>dQ _ _⟩ ⟨⟨rfl,rfl⟩,⟨rfl,rfl⟩,⟨rfl,au.of_eq (congrArg (SV.ints .i64 true) (by congr 1))⟩,⟨rfl,rfl⟩,trivial⟩ ?_
 rintro i out⟨hd,hl,hv,hi,hz⟩;refine r0 rfl ?_;refine br rfl rfl rfl (fun h=>?_) (fun h=>?_)
 ·refine r0 rfl ?_;have e1:=aU (a8 m) i;generalize hx:(aa m).getD i 0=x at*;refine mA (fun(k:Nat)(o:List Int)(c:Int)=>[(0,.ints .i64 false (aa m)),(1,.ints .i64 false (aa n)),(5,.ints .i64 true o),(6,.i i),(7,.i c),(8,.i k)])
   (fun k o c=>fD o/\o.length=(aa m).length+(aa n).length/\0<=c/\c<1000000000/\val o+c*1000000000^(i+k)=val out+x*val ((aa n).take k)*1000000000^i/\k<=(aa n).length/\∀k',i+k<=k'->o.getD k' 0=out.getD k' 0)
   (fun k _ _=>(aa n).length-k) 0 out 0 ⟨hd,hl,by omega,by omega,by simp[val],by omega,fun _ _=>rfl⟩ ⟨⟨rfl,rfl⟩,⟨rfl,rfl⟩,⟨rfl,rfl⟩,⟨rfl,rfl⟩,⟨rfl,rfl⟩,⟨rfl,rfl⟩,trivial⟩ ?_
  rintro k o c⟨gd,gl,c0,c1,gv,gk,gz⟩;refine r0 rfl ?_;refine br rfl rfl rfl (fun h3=>?_) (fun h3=>?_)
  ·have e2:=aU (a8 n) k;have e3:=aU gd (i+k);have ei:(i:Int).toNat=i:=by omega
   have ek:(k:Int).toNat=k:=by omega
   have Ui:((i:Int)+(k:Int)).toNat=i+k:=by omega
   generalize hy:(aa n).getD k 0=y at*;generalize hw:o.getD (i+k) 0=w at*;have p0:0<=x*y:=Int.mul_nonneg (by omega) (by omega);have p1:x*y<=999999999*999999999:=Int.mul_le_mul (by omega) (by omega) (by omega) (by omega);refine k1 rfl (by kernel_rfl) (by simp only[ae,and_true,ei,ek,Ui,hx,hy,hw,gl];omega) ?_;refine again (k+1,o.set (i+k) ((w+x*y+c)%1000000000),(w+x*y+c)/1000000000) ?_ ⟨du gd (by omega),by simpa using gl,by dsimp only;omega,by dsimp only;omega,?_,by dsimp only;omega,?_⟩
    ⟨⟨rfl,rfl⟩,⟨rfl,rfl⟩,⟨rfl,au.of_eq (congrArg (SV.ints .i64 true) (by simp only[ei,ek,Ui,hx,hy,hw]))⟩,⟨rfl,rfl⟩,⟨rfl,au.of_eq (congrArg SV.i (by simp only[ei,ek,Ui,hx,hy,hw]))⟩,⟨rfl,rfl⟩,trivial⟩
   ·dsimp only;omega
   ·dsimp only;have cB:i+k<o.length:=by omega
    rw[iX _ cB,hw,aA,hy,show i+(k+1)=i+k+1 by omega,Int.pow_succ,Int.pow_add];rw[Int.pow_add]at gv;have q4:=Int.mul_ediv_add_emod (w+x*y+c) 1000000000;generalize (w+x*y+c)/1000000000=q at*;generalize (w+x*y+c)%1000000000=r at*;generalize (1000000000:Int)^i=A at*;generalize (1000000000:Int)^k=B at*
    grind
   dsimp only;intro k' qO;rw[bA,if_neg (by omega)];exact gz k' (by omega)
  have hk:k=(aa n).length:=by omega
  subst hk;rw[List.take_of_length_le (Nat.le_refl _),aX]at gv;have hw:o.getD (i+(aa n).length) 0=0:=by rw[gz _ (Nat.le_refl _)];exact hz _ (Nat.le_refl _)
  have e4:((i:Int)+((aa n).length:Int)).toNat=i+(aa n).length:=by omega
  have RV:o.getD ((i:Int)+((aa n).length:Int)).toNat 0=0:=by rw[e4];exact hw
  refine r1 rfl (by simp only[ae,and_true,RV,gl,e4];omega) ?_;refine again (i+1,o.set (i+(aa n).length) c) ?_ ⟨du gd ⟨c0,c1⟩,by simpa using gl,?_,by dsimp only;omega,?_⟩
   ⟨⟨rfl,rfl⟩,⟨rfl,rfl⟩,⟨rfl,au.of_eq (congrArg (SV.ints .i64 true) (by rw[RV,e4];congr 1;omega))⟩,⟨rfl,rfl⟩,trivial⟩
  ·dsimp only;omega
  ·dsimp only;rw[iX _ (by omega),hw,aA,hx];generalize (1000000000:Int)^(i+(aa n).length)=A at*;generalize (1000000000:Int)^i=B at*
   grind
  dsimp only;intro k' qO;rw[bA,if_neg (by omega),gz k' (by omega)];exact hz k' (by omega)
 have L9:i=(aa m).length:=by omega
 subst L9;rw[List.take_of_length_le (Nat.le_refl _),aX]at hv;refine r0 rfl ?_;refine cl rfl rfl (cC _ (by omega)) rfl ?_;refine r0 rfl ?_;refine aF rfl (au.of_eq (congrArg (SV.ints .i64 false) ?_));rw[c7 hd,hv,<-Int.natCast_mul];rfl
theorem F8(u v:List Int)(j n:Nat)(hu:fD u)(hv:fD v)(hn:v.length=n)(h2:2<=n)(hj:j+n<u.length)(FO:u.length<2^60)(LZ:500000000<=v.getD (n-1) 0):
 aO Tryz.prog 210 [.ints .i64 false u,.ints .i64 false v,.i j] (.i (b7 ((u.getD (j+n) 0*1000000000+u.getD (j+n-1) 0)/v.getD (n-1) 0).toNat ((u.getD (j+n) 0*1000000000+u.getD (j+n-1) 0)/v.getD (n-1) 0) ((u.getD (j+n) 0*1000000000+u.getD (j+n-1) 0)%v.getD (n-1) 0) (v.getD (n-1) 0) (v.getD (n-2) 0) (u.getD (j+n-2) 0))):=by
 have a1:=aU hu (j+n);have a2:=aU hu (j+n-1);have a3:=aU hu (j+n-2);have a4:=aU hv (n-1);have a5:=aU hv (n-2);have t1:((j:Int)+(n:Int)).toNat=j+n:=by omega
 have t2:((j:Int)+(n:Int)-1).toNat=j+n-1:=by omega
 have t3:((j:Int)+(n:Int)-2).toNat=j+n-2:=by omega
 have t4:((n:Int)-1).toNat=n-1:=by omega
 have t5:((n:Int)-2).toNat=n-2:=by omega
 subst hn;generalize b1':u.getD (j+v.length) 0=x1 at*;generalize b2':u.getD (j+v.length-1) 0=x2 at*;generalize b3':u.getD (j+v.length-2) 0=x3 at*;generalize WR:v.getD (v.length-1) 0=y1 at*;generalize b5':v.getD (v.length-2) 0=y2 at*;refine enter (fn:=Tryz.f210) Tryz.func210 rfl rfl rfl rfl ?_;have c0:0<=(x1*1000000000+x2)/y1:=Int.ediv_nonneg (by omega) (by omega);have c1:(x1*1000000000+x2)/y1<=2000000000:=by have:=Int.ediv_lt_of_lt_mul (show 0<y1 by omega) (a:=x1*1000000000+x2) (b:=2000000001) (by omega);omega
 have c2:=Int.emod_nonneg (x1*1000000000+x2) (show y1≠0 by omega);have c3:=Int.emod_lt_of_pos (x1*1000000000+x2) (show 0<y1 by omega);refine k1 rfl (by kernel_rfl) (by simp only[ae,and_true,t1,t2,t4,b1',b2',WR];omega) ?_;refine lP (fun(t r:Int)=>[(0,.ints .i64 false u),(1,.ints .i64 false v),(2,.i j),(7,.i v.length),(9,.i t),(10,.i r)])
  (fun t r=>0<=t/\t<=2000000000/\0<=r/\r<1000000000/\b7 t.toNat t r y1 y2 x3=b7 ((x1*1000000000+x2)/y1).toNat ((x1*1000000000+x2)/y1) ((x1*1000000000+x2)%y1) y1 y2 x3) (fun t _=>t.toNat) _ _ ⟨c0,c1,c2,by omega,rfl⟩
  ⟨⟨rfl,rfl⟩,⟨rfl,rfl⟩,⟨rfl,rfl⟩,⟨rfl,rfl⟩,⟨rfl,au.of_eq (congrArg SV.i (by simp only[t1,t2,t4,b1',b2',WR]))⟩,⟨rfl,au.of_eq (congrArg SV.i (by simp only[t1,t2,t4,b1',b2',WR]))⟩,trivial⟩ ?_
 rintro t r⟨d0,d1,d2,d3,d4⟩;refine D9 (Wz [(0,.ints .i64 false u),(1,.ints .i64 false v),(2,.i j),(7,.i v.length),(9,.i t),(10,.i r)] (1000000000<=t\/r*1000000000+x3<t*y2) ?_ fun hc=>?_)
 ·refine r0 rfl ?_;refine aB 44 rfl (fun h=>?_) (fun h=>?_)
  ·refine k0 rfl (by kernel_rfl) ?_;exact aQ (.inl h) ⟨⟨rfl,rfl⟩,⟨rfl,rfl⟩,⟨rfl,rfl⟩,⟨rfl,rfl⟩,⟨rfl,rfl⟩,⟨rfl,rfl⟩,trivial⟩
  have p1:t*y2<=999999999*999999999:=Int.mul_le_mul (by omega) (by omega) (by omega) (by omega);have p0:0<=t*y2:=Int.mul_nonneg (by omega) (by omega);refine k1 rfl (by kernel_rfl) (by simp only[ae,and_true,t3,t5,b3',b5'];omega) ?_;refine br rfl rfl rfl (fun h3=>?_) (fun h3=>?_)
  ·simp only[t3,t5,b3',b5']at h3;refine r0 rfl ?_;exact aQ (.inr h3) ⟨⟨rfl,rfl⟩,⟨rfl,rfl⟩,⟨rfl,rfl⟩,⟨rfl,rfl⟩,⟨rfl,rfl⟩,⟨rfl,rfl⟩,trivial⟩
  simp only[t3,t5,b3',b5']at h3;refine r0 rfl ?_;refine aF rfl (au.of_eq (congrArg SV.i ?_));rw[<-d4];cases hk:t.toNat with
  |zero=>rfl
  |succ k=>simp only[b7];rw[if_neg (by omega)]
 have ht:0<t:=by
  rcases hc with hc|hc
  ·omega
  rcases Int.lt_or_le 0 t with h|h
  ·exact h
  have:t=0:=by omega
  subst this;omega
 obtain⟨k,hk⟩:∃k,t.toNat=k+1:=⟨t.toNat-1,by omega⟩;rw[hk]at d4;simp only[b7]at d4;rw[if_pos hc]at d4;refine r1 rfl (by simp only[ae,and_true,t4,WR];omega) ?_;refine br rfl rfl rfl (fun h3=>?_) (fun h3=>?_)
 ·simp only[t4,WR]at h3;rw[if_pos h3]at d4;refine r0 rfl ?_;exact aF rfl (au.of_eq (congrArg SV.i d4))
 simp only[t4,WR]at h3;rw[if_neg h3]at d4;refine r0 rfl ?_;refine again (t-1,r+y1) ?_ ⟨by dsimp only;omega,by dsimp only;omega,by dsimp only;omega,by dsimp only;omega,?_⟩ ⟨⟨rfl,rfl⟩,⟨rfl,rfl⟩,⟨rfl,rfl⟩,⟨rfl,rfl⟩,⟨rfl,rfl⟩,⟨rfl,au.of_eq (congrArg SV.i (by simp only[t4,WR]))⟩,trivial⟩
 ·dsimp only;omega
 dsimp only;rw[<-d4,show(t-1).toNat=k by omega]
theorem Mt{U V:Int}{n:Nat}(hU:U<1000000000*V)(hV:V<1000000000^n):U<1000000000^(n+1):=by rw[Int.pow_succ];omega
set_option maxHeartbeats 1000000 in
theorem ku(m n:Nat)(h1:(aa m).length<2^36)(h2:(aa n).length<2^36)(OZ:n≠0):aO Tryz.prog 127 [.ints .i64 false (aa m),.ints .i64 false (aa n)] (.bC [.ints .i64 false (aa (m/n)),.ints .i64 false (aa (m%n))]):=by
 refine enter (fn:=Tryz.f127) Tryz.func127 rfl rfl rfl rfl ?_;refine r0 rfl ?_;refine cl rfl rfl (kz m n (by omega) (by omega)) rfl ?_;refine r0 rfl ?_;refine br rfl rfl rfl (fun h=>?_) (fun h=>?_)
 ·have cB:m<n:=by
   unfold l9 at h;split at h
   ·assumption
   split at h<;>omega
  refine r0 rfl ?_;refine aF rfl ⟨?_,au.of_eq (congrArg (SV.ints .i64 false) ?_),trivial⟩
  ·show aa (m/n)=[];rw[Nat.div_eq_of_lt cB,b9]
  rw[Nat.mod_eq_of_lt cB]
 have QF:n<=m:=by
  unfold l9 at h;rcases Nat.lt_or_ge m n with h'|h'
  ·rw[if_pos h']at h;omega
  exact h'
 have hnp:=dm OZ;have hlb:(aa n).length<=(aa m).length:=by
  rcases Nat.lt_or_ge (aa m).length (aa n).length with h'|h'
  ·have:=bz h';omega
  exact h'
 refine r0 rfl ?_;refine br rfl rfl rfl (fun h3=>?_) (fun h3=>?_)
 ·have hs:aa n=[(n:Int)]/\n<1000000000:=by
   have e:=aX n;have hl:(aa n).length=1:=by omega
   obtain⟨d,hd⟩:=List.length_eq_one_iff.1 hl;have:=a8 n d (by rw[hd];simp);rw[hd]at e;simp only[val]at e;rw[hd];exact⟨by congr 1;omega,by omega⟩
  have hg:(aa n).getD (0:Int).toNat 0=(n:Int):=by rw[hs.1];rfl
  refine r1 rfl (by simp only[ae,and_true];omega) ?_;refine cl rfl rfl (by rw[hg];exact pV m n (by omega) (by omega) hs.2) rfl ?_;refine r0 rfl ?_;refine cl rfl rfl (cC _ (by simp)) rfl ?_;refine r0 rfl ?_;refine aF rfl ⟨au.refl _,au.of_eq (congrArg (SV.ints .i64 false) ?_),trivial⟩;have cB:m%n<n:=Nat.mod_lt _ (by omega);rw[c7 (fun d hd=>by simp at hd;omega)];have e:(val [((m%n:Nat):Int)]).toNat=m%n:=by simp only[val];omega
  rw[e]
 have Ir:2<=(aa n).length:=by omega
 have et:(((aa n).length:Int)-1).toNat=(aa n).length-1:=by omega
 have hbt:=aU (a8 n) ((aa n).length-1);refine r1 rfl (by simp only[ae,and_true,et];omega) ?_;rw[et];have hF0:0<=1000000000/((aa n).getD ((aa n).length-1) 0+1):=Int.ediv_nonneg (by omega) (by omega);obtain⟨Fn,Zt⟩:=Int.eq_ofNat_of_zero_le hF0;obtain⟨f1,f2,f3,f4⟩:=LA Ir Zt.symm;have hFd:=kd (f:=Fn) (by omega) (by omega);have hFl:(aa Fn).length<2^40:=by rw[hFd];simp
 rw[Zt];refine cl rfl rfl (by rw[<-hFd];exact kp n Fn (by omega) hFl) rfl ?_;refine r0 rfl ?_;refine cl rfl rfl (by rw[<-hFd];exact kp m Fn (by omega) hFl) rfl ?_;have hla:(aa (m*Fn)).length<=(aa m).length+1:=by
  have g1:=bq m;rcases eM (m*Fn)with g2|g2
  ·rw[g2];simp
  rcases Nat.lt_or_ge ((aa m).length+1) (aa (m*Fn)).length with h'|h'
  ·have:=fN (show(aa m).length+1<=(aa (m*Fn)).length-1 by omega);rw[Int.pow_succ]at this;have e:((m*Fn:Nat):Int)<=m*500000000:=by rw[Int.natCast_mul];exact Int.mul_le_mul_of_nonneg_left (by omega) (by omega)
   omega
  exact h'
 refine r1 rfl (by simp only[ae,and_true,len,f3];omega) ?_;have Dk:=f3;generalize hV:aa (n*Fn)=v at*;have dv:fD v:=hV▸a8 _;have vv:val v=((n*Fn:Nat):Int):=by rw[<-hV,aX]
 have adL:0<val v:=by rw[vv];have:0<n*Fn:=Nat.mul_pos (by omega) (by omega);omega
 have abx:val v<1000000000^(aa n).length:=by have:=fI dv;rwa[Dk]at this
 generalize Io:(aa n).length=nb at*;generalize YM:(aa m).length=la at*;refine loop (fun w:List Int=>[(0,.ints .i64 false (aa m)),(8,.ints .i64 false [(Fn:Int)]),(9,.ints .i64 false v),(10,.i nb),(11,.ints .i64 true w)]) (fun w=>fD w/\val w=((m*Fn:Nat):Int)/\w.length<=la+1) (fun w=>la+1-w.length) (aa (m*Fn))
  ⟨a8 _,aX _,hla⟩ ⟨⟨rfl,rfl⟩,⟨rfl,rfl⟩,⟨rfl,rfl⟩,⟨rfl,au.of_eq (congrArg SV.i (by rw[Dk]))⟩,⟨rfl,rfl⟩,trivial⟩ ?_
 rintro w⟨wd,wv,wl⟩;refine r1 rfl (by simp only[ae,and_true];omega) ?_;refine br rfl rfl rfl (fun h4=>?_) (fun h4=>?_)
 ·rw[YM]at h4;refine r1 rfl (by simp only[ae,and_true,List.length_cons,List.length_nil];omega) ?_;refine again (w++[0]) ?_ ⟨gG wd (by omega),by rw[dw,wv];simp,by simp;omega⟩ ⟨⟨rfl,rfl⟩,⟨rfl,rfl⟩,⟨rfl,rfl⟩,⟨rfl,rfl⟩,⟨rfl,rfl⟩,trivial⟩;simp;omega
 rw[YM]at h4;have hwl:w.length=la+1:=by omega
 have el1:((w.length:Int)-(nb:Int)).toNat=la+1-nb:=by omega
 have el2:((w.length:Int)-(nb:Int)-1)=((la+1-nb:Nat):Int)-1:=by omega
 refine r1 rfl (by simp only[ae,and_true,hwl];omega) ?_;refine mA (fun(i:Nat)(u q:List Int)=>[(8,.ints .i64 false [(Fn:Int)]),(9,.ints .i64 false v),(10,.i nb),(11,.ints .i64 true u),(12,.ints .i64 true q),(13,.i ((i:Int)-1))])
  (fun i u q=>fD u/\u.length=la+1/\fD q/\q.length=la+1-nb/\i<=la+1-nb/\val (u.drop i)<val v/\((m*Fn:Nat):Int)=val u+val v*val (q.drop i)*1000000000^i)
  (fun i _ _=>i) (la+1-nb) w (List.replicate (la+1-nb) 0) ⟨wd,hwl,dI _,by simp,Nat.le_refl _,?_,?_⟩
  ⟨⟨rfl,rfl⟩,⟨rfl,rfl⟩,⟨rfl,rfl⟩,⟨rfl,rfl⟩,⟨rfl,au.of_eq (congrArg (SV.ints .i64 true) (by rw[el1]))⟩,⟨rfl,au.of_eq (congrArg SV.i el2)⟩,trivial⟩ ?_
 ·have e:=fh w (la+1-nb);have l:(w.take (la+1-nb)).length=la+1-nb:=by simp;omega
  rw[l,wv]at e;have e0:=aT (eO wd (la+1-nb));have g1:=bq m;rw[YM]at g1;have g2:(1000000000:Int)^(nb-1)<=n:=by
   rcases eM n with g|g
   ·rw[g]at Io;simp at Io;omega
   rw[Io]at g;exact g
  have p1:=bV (la+1-nb);have e2:(1000000000:Int)^la=1000000000^(la+1-nb)*1000000000^(nb-1):=by rw[<-Int.pow_add];congr 1;omega
  have e3:((m*Fn:Nat):Int)<1000000000^(la+1-nb)*val v:=by
   rw[vv,Int.natCast_mul,Int.natCast_mul];have a1:(m:Int)*Fn<1000000000^la*Fn:=Int.mul_lt_mul_of_pos_right g1 (by omega);have a2:(1000000000:Int)^la*Fn<=1000000000^(la+1-nb)*(n*Fn):=by rw[e2,Int.mul_assoc];exact Int.mul_le_mul_of_nonneg_left (eC g2 (by omega)) (by omega)
   omega
  have:1000000000^(la+1-nb)*val (w.drop (la+1-nb))<1000000000^(la+1-nb)*val v:=by omega
  exact Int.lt_of_mul_lt_mul_left this (by omega)
 ·rw[wv,List.drop_of_length_le (by simp)];simp[val]
 rintro i u q⟨ud,ul,qd,ql,hi,cB,heq⟩;rcases i with _|j
 ·refine r0 rfl ?_;refine br rfl rfl rfl (fun h5=>absurd h5 (by omega)) (fun _=>?_);have enb:(nb:Int).toNat=nb:=by omega
  simp only[List.drop_zero,Int.pow_zero,Int.mul_one]at cB heq;have hu0:=aT ud;have Xe:=aT qd;have hq:val q=((m/n:Nat):Int):=by
   have e1:(m*Fn)/(n*Fn)=m/n:=Nat.mul_div_mul_right _ _ (by omega);have e2:((m*Fn:Nat):Int)/((n*Fn:Nat):Int)=val q:=by rw[heq,<-vv,Int.add_mul_ediv_left _ _ (by omega),Int.ediv_eq_zero_of_lt hu0 cB];omega
   rw[<-e2,<-e1];simp
  have hr:val u=(((m%n)*Fn:Nat):Int):=by
   have e1:(m*Fn)%(n*Fn)=(m%n)*Fn:=Nat.mul_mod_mul_right _ _ _;have e2:((m*Fn:Nat):Int)%((n*Fn:Nat):Int)=val u:=by rw[heq,<-vv,Int.add_mul_emod_self_left,Int.emod_eq_of_lt hu0 cB]
   rw[<-e2,<-e1];simp
  have hut:val (u.take nb)=(((m%n)*Fn:Nat):Int):=by
   have e:=fh u nb;have l:(u.take nb).length=nb:=by simp;omega
   rw[l]at e;have a1:=aT (eO ud nb);have a2:=aT (l0 ud nb);have a3:1000000000^nb*val (u.drop nb)<1000000000^nb*1:=by omega
   have a4:=Int.lt_of_mul_lt_mul_left a3 (Int.le_of_lt (bV nb));have a5:val (u.drop nb)=0:=by omega
   rw[a5]at e;omega
  refine r1 rfl (by simp only[ae,and_true,enb,ul];omega) ?_;refine cd rfl rfl (cC _ (by simp;omega)) rfl ?_;have etr:bY (((u.drop 0).take ((nb:Int).toNat-0)))=aa ((m%n)*Fn):=by rw[List.drop_zero,enb,Nat.sub_zero,c7 (eO ud _),hut];rfl
  rw[etr];refine r1 rfl (by simp only[ae,and_true,List.length_cons,List.length_nil];omega) ?_;have hlr:(aa ((m%n)*Fn)).length<2^40:=by
   rw[<-etr];have a1:=sx (((u.drop 0).take ((nb:Int).toNat-0)));have a2:(((u.drop 0).take ((nb:Int).toNat-0))).length<=nb:=by simp;omega
   omega
  refine cd rfl rfl (pV ((m%n)*Fn) Fn hlr (by omega) (by omega)) rfl ?_;refine k0 rfl (by kernel_rfl) ?_;refine cl rfl rfl (cC _ (by omega)) rfl ?_;refine r0 rfl ?_;refine aF rfl ⟨au.of_eq (congrArg (SV.ints .i64 false) ?_),au.of_eq (congrArg (SV.ints .i64 false) ?_),trivial⟩
  ·rw[c7 qd,hq];rfl
  rw[Nat.mul_div_cancel _ (by omega)]
 have hjl:j+nb<la+1:=by omega
 have ej:(((j+1:Nat):Int)-1)=(j:Int):=by omega
 have hu:=eR (w:=u) (j:=j) (by omega);have huj:=aU ud j;have hUV:val (u.drop j)<1000000000*val v:=by omega
 have hU0:=aT (l0 ud j);have uf:val (u.drop (j+nb+1))=0:=by
  have e:=nP (w:=u) (j:=j) (n:=nb) (by omega);have lo:=nQ (w:=u) (j:=j) (n:=nb) (by omega) (fun k _ _=>aU ud k);have d1:=aU ud (j+nb);have d2:=aT (l0 ud (j+nb+1));have d3:=Mt hUV abx;have d4:=Int.mul_nonneg d1.1 (Int.le_of_lt (bV nb));have d5:1000000000^(nb+1)*val (u.drop (j+nb+1))<1000000000^(nb+1)*1:=by omega
  have:=Int.lt_of_mul_lt_mul_left d5 (Int.le_of_lt (bV _));omega
 have VX:=F8 u v j nb ud dv Dk Ir (by omega) (by omega) f4;have hT:val (u.drop j)<((b7 ((u.getD (j+nb) 0*1000000000+u.getD (j+nb-1) 0)/v.getD (nb-1) 0).toNat ((u.getD (j+nb) 0*1000000000+u.getD (j+nb-1) 0)/v.getD (nb-1) 0) ((u.getD (j+nb) 0*1000000000+u.getD (j+nb-1) 0)%v.getD (nb-1) 0) (v.getD (nb-1) 0) (v.getD (nb-2) 0) (u.getD (j+nb-2) 0))+1)*val v/\
  ((b7 ((u.getD (j+nb) 0*1000000000+u.getD (j+nb-1) 0)/v.getD (nb-1) 0).toNat ((u.getD (j+nb) 0*1000000000+u.getD (j+nb-1) 0)/v.getD (nb-1) 0) ((u.getD (j+nb) 0*1000000000+u.getD (j+nb-1) 0)%v.getD (nb-1) 0) (v.getD (nb-1) 0) (v.getD (nb-2) 0) (u.getD (j+nb-2) 0))-1)*val v<=val (u.drop j)/\
  0<=b7 ((u.getD (j+nb) 0*1000000000+u.getD (j+nb-1) 0)/v.getD (nb-1) 0).toNat ((u.getD (j+nb) 0*1000000000+u.getD (j+nb-1) 0)/v.getD (nb-1) 0) ((u.getD (j+nb) 0*1000000000+u.getD (j+nb-1) 0)%v.getD (nb-1) 0) (v.getD (nb-1) 0) (v.getD (nb-2) 0) (u.getD (j+nb-2) 0):=by
  obtain⟨c,rfl⟩:∃c,nb=c+2:=⟨nb-2,by omega⟩;have tv:=nP (w:=v) (j:=0) (n:=c) (by omega);have tv1:=eR (w:=v) (j:=0+c+1) (by omega);have tv2:v.drop (0+c+1+1)=[]:=List.drop_of_length_le (by omega);have tvl:=nQ (w:=v) (j:=0) (n:=c) (by omega) (fun k _ _=>aU dv k);have tu:=nP (w:=u) (j:=j) (n:=c) (by omega);have tu1:=eR (w:=u) (j:=j+c+1) (by omega);have tu2:=eR (w:=u) (j:=j+c+1+1) (by omega);have tul:=nQ (w:=u) (j:=j) (n:=c) (by omega) (fun k _ _=>aU ud k);rw[tv2]at tv1;simp only[val,Nat.zero_add,List.drop_zero]at tv tv1 tvl;rw[tv1]at tv;have hh:val (u.drop (j+c+1+1+1))=0:=uf;rw[hh]at tu2;rw[tu2]at tu1;rw[tu1]at tu;have g0:=aU dv c;have g1:=aU dv (c+1);have g2:=aU ud (j+c);have g3:=aU ud (j+c+1);have g4:=aU ud (j+c+1+1);have x1:c+2-1=c+1:=by omega
  have x2:c+2-2=c:=by omega
  have x3:j+(c+2)=j+c+1+1:=by omega
  have x4:j+(c+2)-1=j+c+1:=by omega
  have x5:j+(c+2)-2=j+c:=by omega
  rw[x1]at f4;rw[x1,x2,x4,x5,x3];generalize v.getD (c+1) 0=v1 at*;generalize v.getD c 0=v2 at*;generalize u.getD (j+c) 0=u3 at*;generalize u.getD (j+c+1) 0=u2 at*;generalize u.getD (j+c+1+1) 0=u1 at*;rw[Int.pow_succ]at tv tu;have hP:=bV c;have q0:0<=(u1*1000000000+u2)/v1:=Int.ediv_nonneg (by omega) (by omega);have q1:=Int.emod_nonneg (u1*1000000000+u2) (show v1≠0 by omega);have q2:=Int.emod_lt_of_pos (u1*1000000000+u2) (show 0<v1 by omega);have q3:=Int.mul_ediv_add_emod (u1*1000000000+u2) v1;generalize (1000000000:Int)^c=P at*;have T7:val v=v1*(1000000000*P)+v2*P+val (v.take c):=by rw[tv];grind
  have hU':val (u.drop j)=(u1*1000000000+u2)*(1000000000*P)+u3*P+val ((u.drop j).take c):=by rw[tu];grind
  have:=pM hP (by omega) g0 g2 tvl tul T7 hU' hUV ((u1*1000000000+u2)/v1).toNat ((u1*1000000000+u2)/v1) ((u1*1000000000+u2)%v1) rfl q0 q1 (by rw[Int.mul_comm];omega) ?_
  ·exact⟨this.1,this.2.1,this.2.2.1⟩
  have a1:(u1*1000000000+u2)+1<=((u1*1000000000+u2)/v1+1)*v1:=by have e:v1*((u1*1000000000+u2)/v1)=(u1*1000000000+u2)/v1*v1:=Int.mul_comm _ _;rw[Int.add_mul];omega
  have a2:=eC a1 (show 0<=1000000000*P by omega);have a3:u3*P+val ((u.drop j).take c)<1000000000*P:=by have:=eC (show u3+1<=1000000000 by omega) (show 0<=P by omega);rw[Int.add_mul]at this;omega
  have a4:0<=v2*P:=Int.mul_nonneg g0.1 (by omega);have a5:((u1*1000000000+u2)/v1+1)*(v1*(1000000000*P))<=((u1*1000000000+u2)/v1+1)*val v:=Int.mul_le_mul_of_nonneg_left (by omega) (by omega);rw[Int.mul_assoc]at a2;rw[Int.add_mul (u1*1000000000+u2) 1]at a2;omega
 generalize hTd:b7 ((u.getD (j+nb) 0*1000000000+u.getD (j+nb-1) 0)/v.getD (nb-1) 0).toNat ((u.getD (j+nb) 0*1000000000+u.getD (j+nb-1) 0)/v.getD (nb-1) 0) ((u.getD (j+nb) 0*1000000000+u.getD (j+nb-1) 0)%v.getD (nb-1) 0) (v.getD (nb-1) 0) (v.getD (nb-2) 0) (u.getD (j+nb-2) 0)=T at*;obtain⟨hT1,hT2,hT0⟩:=hT;have hTB:T<=1000000000:=by
  have:(T-1)*val v<1000000000*val v:=by omega
  have:=Int.lt_of_mul_lt_mul_right this (by omega);omega
 refine Yd [(8,.ints .i64 false [(Fn:Int)]),(9,.ints .i64 false v),(10,.i nb),(11,.ints .i64 true u),(12,.ints .i64 true q),(13,.i j)] ⟨⟨rfl,rfl⟩,⟨rfl,rfl⟩,⟨rfl,rfl⟩,⟨rfl,rfl⟩,⟨rfl,rfl⟩,⟨rfl,au.of_eq (congrArg SV.i ej)⟩,trivial⟩ ?_;refine r0 rfl ?_;refine br rfl rfl rfl (fun _=>?_) (fun h5=>absurd (show(0:Int)<=j by omega) h5);refine r0 rfl ?_;refine cl rfl rfl VX rfl ?_;refine r0 rfl ?_;have QM:∀k:Nat,((k:Int)+(j:Int)).toNat=j+k:=fun k=>by omega
 have ejn:((j:Int)+(nb:Int)).toNat=j+nb:=by omega
 refine mA (fun(k:Nat)(w:List Int)(c:Int)=>[(8,.ints .i64 false [(Fn:Int)]),(9,.ints .i64 false v),(10,.i nb),(11,.ints .i64 true w),(12,.ints .i64 true q),(13,.i j),(14,.i T),(15,.i c),(16,.i k)])
  (fun k w c=>fD w/\w.length=la+1/\0<=c/\c<=T+1/\val (w.drop j)=val (u.drop j)-T*val (v.take k)+c*1000000000^k/\w.take j=u.take j/\k<=nb/\∀k',j+k<=k'->w.getD k' 0=u.getD k' 0)
  (fun k _ _=>nb-k) 0 u 0 ⟨ud,ul,by omega,by omega,by simp[val],rfl,by omega,fun _ _=>rfl⟩ ⟨⟨rfl,rfl⟩,⟨rfl,rfl⟩,⟨rfl,rfl⟩,⟨rfl,rfl⟩,⟨rfl,rfl⟩,⟨rfl,rfl⟩,⟨rfl,rfl⟩,⟨rfl,rfl⟩,⟨rfl,rfl⟩,trivial⟩ ?_
 rintro k w c⟨W0,Tm,c0,c1,Vx,JT,qO,yW⟩;refine r0 rfl ?_;refine br rfl rfl rfl (fun h5=>?_) (fun h5=>?_)
 ·have ek:(k:Int).toNat=k:=by omega
  have g1:=aU dv k;have g2:=aU W0 (j+k);generalize hx:v.getD k 0=x at*;generalize hy:w.getD (j+k) 0=y at*;have p0:0<=T*x:=Int.mul_nonneg hT0 g1.1;have p1:T*x<=T*999999999:=Int.mul_le_mul_of_nonneg_left (by omega) hT0;have q4:=Int.mul_ediv_add_emod (T*x+c) 1000000000;have q5:=Int.emod_nonneg (T*x+c) (show(1000000000:Int)≠0 by decide);have q6:=Int.emod_lt_of_pos (T*x+c) (show(0:Int)<1000000000 by decide);refine r1 rfl (by simp only[ae,and_true,ek,QM,hx,hy,Tm,Dk];omega) ?_;have step:∀(z c':Int),z=y-(T*x+c)%1000000000+(c'-(T*x+c)/1000000000)*1000000000->val ((w.set (j+k) z).drop j)=val (u.drop j)-T*val (v.take (k+1))+c'*1000000000^(k+1):=by
   intro z c' hz;rw[kB (by omega) (by omega),hy,Vx,aA,hx,Int.pow_succ,show j+k-j=k by omega];generalize (1000000000:Int)^k=B at*;generalize (T*x+c)/1000000000=a at*;generalize (T*x+c)%1000000000=b at*
   grind
  refine br rfl rfl rfl (fun h6=>?_) (fun h6=>?_)
  ·simp only[ek,QM,hx,hy]at h6;refine r1 rfl (by simp only[ae,and_true,ek,QM,hx,hy,Tm,Dk];omega) ?_;refine again (k+1,w.set (j+k) (y-(T*x+c)%1000000000+1000000000),(T*x+c)/1000000000+1) ?_
    ⟨du W0 (by omega),by simpa using Tm,by dsimp only;omega,by dsimp only;omega,step _ ((T*x+c)/1000000000+1) (by omega),by dsimp only;rw[dt (by omega)];exact JT,by dsimp only;omega,fun k' qO=>by dsimp only at qO⊢;rw[bA,if_neg (by omega)];exact yW k' (by omega)⟩
    ⟨⟨rfl,rfl⟩,⟨rfl,rfl⟩,⟨rfl,rfl⟩,⟨rfl,au.of_eq (congrArg (SV.ints .i64 true) (by simp only[ek,QM,hx,hy]))⟩,⟨rfl,rfl⟩,⟨rfl,rfl⟩,⟨rfl,rfl⟩,⟨rfl,au.of_eq (congrArg SV.i (by simp only[ek,hx]))⟩,⟨rfl,rfl⟩,trivial⟩
   dsimp only;omega
  simp only[ek,QM,hx,hy]at h6;refine r1 rfl (by simp only[ae,and_true,ek,QM,hx,hy,Tm,Dk];omega) ?_;refine again (k+1,w.set (j+k) (y-(T*x+c)%1000000000),(T*x+c)/1000000000) ?_
   ⟨du W0 (by omega),by simpa using Tm,by dsimp only;omega,by dsimp only;omega,step _ ((T*x+c)/1000000000) (by omega),by dsimp only;rw[dt (by omega)];exact JT,by dsimp only;omega,fun k' qO=>by dsimp only at qO⊢;rw[bA,if_neg (by omega)];exact yW k' (by omega)⟩
   ⟨⟨rfl,rfl⟩,⟨rfl,rfl⟩,⟨rfl,rfl⟩,⟨rfl,au.of_eq (congrArg (SV.ints .i64 true) (by simp only[ek,QM,hx,hy]))⟩,⟨rfl,rfl⟩,⟨rfl,rfl⟩,⟨rfl,rfl⟩,⟨rfl,au.of_eq (congrArg SV.i (by simp only[ek,hx]))⟩,⟨rfl,rfl⟩,trivial⟩
  dsimp only;omega
 have hk:k=nb:=by omega
 subst hk;rw[List.take_of_length_le (by omega)]at Vx;have g2:=aU ud (j+k);have BZ:=yW (j+k) (by omega);generalize hy:u.getD (j+k) 0=y at*;have jk:(w.set (j+k) (y-c)).getD (j+k) 0=y-c:=by rw[bA,if_pos ⟨rfl,by omega⟩]
 refine r1 rfl (by simp only[ae,and_true,ejn,BZ,jk,Tm,List.length_set];omega) ?_;simp only[ejn,BZ];have LZ:val ((w.set (j+k) (y-c)).drop j)=val (u.drop j)-T*val v:=by
  rw[kB (by omega) (by omega),BZ,Vx,show j+k-j=k by omega];generalize (1000000000:Int)^k=B at*
  grind
 have acd:val ((w.set (j+k) (y-c)).drop (j+k+1))=0:=by
  rw[<-uf]
  congr 1
  refine vV (by simp;omega) fun k' qO=>?_;rw[bA,if_neg (by omega)];exact yW k' (by omega)
 have ad4:=nQ (w:=w.set (j+k) (y-c)) (j:=j) (n:=k) (by simp;omega) (fun k' _ _=>by rw[bA,if_neg (by omega)];exact aU W0 k');have Yt:=nP (w:=w.set (j+k) (y-c)) (j:=j) (n:=k) (by simp;omega);rw[jk,acd]at Yt;have hpk:=bV k;refine adb (fun(T':Int)(w':List Int)=>[(8,.ints .i64 false [(Fn:Int)]),(9,.ints .i64 false v),(10,.i k),(11,.ints .i64 true w'),(12,.ints .i64 true q),(13,.i j),(14,.i T')])
  (fun T' w'=>fD w'/\w'.length=la+1/\w'.take j=u.take j/\val (w'.drop j)=val (u.drop j)-T'*val v/\0<=T'/\val (w'.drop j)<val v) ?_ ?_
 ·refine br rfl rfl rfl (fun h6=>?_) (fun h6=>?_)
  ·simp only[jk]at h6;have oX:val (u.drop j)-T*val v<0:=by
    have:(y-c)*1000000000^k<=(-1)*1000000000^k:=eC (by omega) (by omega);omega
   have ag6:1<=T:=by
    rcases Int.lt_or_le T 1 with h|h
    ·have:T=0:=by omega
     subst this;omega
    exact h
   refine r1 rfl (by simp only[ae,and_true];omega) ?_;refine mA (fun(i:Nat)(z:List Int)(b:Int)=>[(8,.ints .i64 false [(Fn:Int)]),(9,.ints .i64 false v),(10,.i k),(11,.ints .i64 true z),(12,.ints .i64 true q),(13,.i j),(14,.i (T-1)),(19,.i b),(20,.i i)])
    (fun i z b=>(∀p,p≠j+k->0<=z.getD p 0/\z.getD p 0<1000000000)/\z.length=la+1/\0<=b/\b<=1/\val (z.drop j)+b*1000000000^i=val (u.drop j)-T*val v+val (v.take i)/\z.take j=u.take j/\i<=k/\z.getD (j+k) 0=y-c/\∀p,j+k<p->z.getD p 0=u.getD p 0)
    (fun i _ _=>k-i) 0 (w.set (j+k) (y-c)) 0
    ⟨fun p hp=>by rw[bA,if_neg (by omega)];exact aU W0 p,by simpa using Tm,by omega,by omega,by simp[val,LZ],by rw[dt (by omega)];exact JT,by omega,jk,fun p hp=>by rw[bA,if_neg (by omega)];exact yW p (by omega)⟩
    ⟨⟨rfl,rfl⟩,⟨rfl,rfl⟩,⟨rfl,rfl⟩,⟨rfl,rfl⟩,⟨rfl,rfl⟩,⟨rfl,rfl⟩,⟨rfl,rfl⟩,⟨rfl,rfl⟩,⟨rfl,rfl⟩,trivial⟩ ?_
   rintro i z b⟨zd,zl,b0,b1,zv,zt,zi,zy,zs⟩;refine r0 rfl ?_;refine br rfl rfl rfl (fun h7=>?_) (fun h7=>?_)
   ·have ei:(i:Int).toNat=i:=by omega
    have g3:=aU dv i;have g4:=zd (j+i) (by omega);generalize hx:v.getD i 0=x at*;generalize hz:z.getD (j+i) 0=z0 at*;refine k1 rfl (by kernel_rfl) (by simp only[ae,and_true,ei,QM,hx,hz,zl,Dk];omega) ?_;refine again (i+1,z.set (j+i) ((z0+x+b)%1000000000),(z0+x+b)/1000000000) ?_
     ⟨fun p hp=>?_,by simpa using zl,by dsimp only;omega,by dsimp only;omega,?_,by dsimp only;rw[dt (by omega)];exact zt,by dsimp only;omega,by dsimp only;rw[bA,if_neg (by omega)];exact zy,fun p hp=>by dsimp only;rw[bA,if_neg (by omega)];exact zs p hp⟩
     ⟨⟨rfl,rfl⟩,⟨rfl,rfl⟩,⟨rfl,rfl⟩,⟨rfl,au.of_eq (congrArg (SV.ints .i64 true) (by simp only[ei,QM,hx,hz]))⟩,⟨rfl,rfl⟩,⟨rfl,rfl⟩,⟨rfl,rfl⟩,⟨rfl,au.of_eq (congrArg SV.i (by simp only[ei,QM,hx,hz]))⟩,⟨rfl,rfl⟩,trivial⟩
    ·dsimp only;omega
    ·dsimp only;rw[bA];split
     ·omega
     exact zd p hp
    dsimp only;rw[kB (by omega) (by omega),hz,aA,hx,Int.pow_succ,show j+i-j=i by omega];have q4:=Int.mul_ediv_add_emod (z0+x+b) 1000000000;generalize (1000000000:Int)^i=B at*;generalize (z0+x+b)/1000000000=a at*;generalize (z0+x+b)%1000000000=e at*
    grind
   have hik:i=k:=by omega
   subst hik;rw[List.take_of_length_le (by omega)]at zv;refine r1 rfl (by simp only[ae,and_true,ejn,zy,zl];omega) ?_;have TK:val ((z.set (j+i) (y-c+b)).drop j)=val (u.drop j)-(T-1)*val v:=by
    rw[kB (by omega) (by omega),zy,show j+i-j=i by omega,Int.sub_mul];generalize (1000000000:Int)^i=B at*
    grind
   have Yw:(z.set (j+i) (y-c+b)).getD (j+i) 0=y-c+b:=by rw[bA,if_pos ⟨rfl,by omega⟩]
   have acb:val ((z.set (j+i) (y-c+b)).drop (j+i+1))=0:=by
    rw[<-uf]
    congr 1
    refine vV (by simp;omega) fun k' qO=>?_;rw[bA,if_neg (by omega)];exact zs k' (by omega)
   have ad3:=nQ (w:=z.set (j+i) (y-c+b)) (j:=j) (n:=i) (by simp;omega) (fun k' _ _=>by rw[bA,if_neg (by omega)];exact zd k' (by omega));have Ys:=nP (w:=z.set (j+i) (y-c+b)) (j:=j) (n:=i) (by simp;omega);rw[Yw,acb]at Ys;have hR1:val (u.drop j)-(T-1)*val v<val v:=by rw[Int.sub_mul];omega
   have hyc:y-c+b=0:=by
    rcases Int.lt_or_le (y-c+b) 0 with h|h
    ·have:(y-c+b)*1000000000^i<=(-1)*1000000000^i:=eC (by omega) (by omega);omega
    rcases Int.lt_or_le 0 (y-c+b)with h'|h'
    ·have:1*1000000000^i<=(y-c+b)*1000000000^i:=eC (by omega) (by omega);omega
    omega
   refine meet (T-1,z.set (j+i) (y-c+b)) ⟨GH fun p hp=>?_,by simpa using zl,by dsimp only;rw[dt (by omega)];exact zt,TK,by dsimp only;omega,by dsimp only;omega⟩
    ⟨⟨rfl,rfl⟩,⟨rfl,rfl⟩,⟨rfl,rfl⟩,⟨rfl,au.of_eq (congrArg (SV.ints .i64 true) (by simp only[ejn,zy]))⟩,⟨rfl,rfl⟩,⟨rfl,rfl⟩,⟨rfl,rfl⟩,trivial⟩
   dsimp only;rw[bA];split
   ·omega
   exact zd p (by simp at hp;omega)
  simp only[jk]at h6;refine r0 rfl ?_;have Im:0<=val (u.drop j)-T*val v:=by have:0<=(y-c)*1000000000^k:=Int.mul_nonneg (by omega) (by omega);omega
  refine meet (T,w.set (j+k) (y-c)) ⟨du W0 (by omega),by simpa using Tm,by dsimp only;rw[dt (by omega)];exact JT,LZ,hT0,?_⟩
   ⟨⟨rfl,rfl⟩,⟨rfl,rfl⟩,⟨rfl,rfl⟩,⟨rfl,rfl⟩,⟨rfl,rfl⟩,⟨rfl,rfl⟩,⟨rfl,rfl⟩,trivial⟩
  dsimp only;rw[Int.add_mul]at hT1;omega
 rintro T' w'⟨wd2,wl2,wt2,wv2,wT0,aa3⟩;have wn:=aT (l0 wd2 j);have wTB:T'<1000000000:=by
  have:T'*val v<1000000000*val v:=by omega
  exact Int.lt_of_mul_lt_mul_right this (by omega)
 refine r1 rfl (by simp only[ae,and_true,ql];omega) ?_;have Ba:(j:Int).toNat=j:=by omega
 refine again (j,w',q.set j T') (Nat.lt_succ_self _) ⟨wd2,wl2,du qd ⟨wT0,wTB⟩,by simpa using ql,by dsimp only;omega,aa3,?_⟩
  ⟨⟨rfl,rfl⟩,⟨rfl,rfl⟩,⟨rfl,rfl⟩,⟨rfl,rfl⟩,⟨rfl,au.of_eq (congrArg (SV.ints .i64 true) (by rw[Ba]))⟩,⟨rfl,rfl⟩,trivial⟩
 dsimp only;have e1:=fh u j;have e2:=fh w' j;have l1:(u.take j).length=j:=by simp;omega
 have l2:(w'.take j).length=j:=by simp;omega
 rw[l1]at e1;rw[l2,wt2,wv2]at e2;rw[heq,e1,e2];have e3:val ((q.set j T').drop j)=T'+1000000000*val (q.drop (j+1)):=by rw[eR (by simp;omega),bA,if_pos ⟨rfl,by omega⟩,List.drop_set_of_lt (Nat.lt_succ_self j)]
 rw[e3,Int.pow_succ];generalize (1000000000:Int)^j=B at*
 grind
def iE(z:Int):SV:=.agg [.u (decide (z<0)),.ints .i64 false (aa z.natAbs)]
def xn(b:Bool)(x:Int):Int:=if b then -x else x
def Ek(z:Int):Prop:=(aa z.natAbs).length<2^34
theorem kK(n:Nat):0<(aa n).length↔n≠0:=by
 constructor
 ·rintro h rfl;simp[b9]at h
 exact dm
theorem sG(b:Bool)(xs:List Int)(hx:fD xs)(hl:xs.length<2^60):aO Tryz.prog 181 [.u b,.ints .i64 false xs] (iE (xn b (val xs))):=by
 have h0:=aT hx;have hn:(xn b (val xs)).natAbs=(val xs).toNat:=by unfold xn;split<;>omega
 have ht:=c7 hx;refine enter (fn:=Tryz.f181) Tryz.func181 rfl rfl rfl rfl ?_;refine r0 rfl ?_;refine cl rfl rfl (cC _ (by omega)) rfl ?_;refine r0 rfl ?_;refine gS 8 rfl (fun h=>?_) (fun h=>?_)
 ·refine r0 rfl ?_;refine aF rfl ⟨?_,au.of_eq (congrArg (SV.ints .i64 false) (by rw[ht,hn])),trivial⟩;show decide _=decide _;rw[ht];have:=kK (val xs).toNat;simp only[xn,h,if_true,decide_eq_decide];omega
 refine r0 rfl ?_;refine aF rfl ⟨?_,au.of_eq (congrArg (SV.ints .i64 false) (by rw[ht,hn])),trivial⟩;show false=decide _;simp only[xn,h,Bool.false_eq_true,if_false];symm;exact decide_eq_false (by omega)
theorem dE(b:Bool)(n:Nat)(hl:(aa n).length<2^60):aO Tryz.prog 181 [.u b,.ints .i64 false (aa n)] (iE (xn b n)):=by have:=sG b (aa n) (a8 n) hl;rwa[aX]at this
theorem wo(z:Int)(h:Ek z):aO Tryz.prog 179 [iE z] (iE (-z)):=by unfold Ek at h;refine enter (fn:=Tryz.f179) Tryz.func179 rfl rfl rfl rfl ?_;refine r0 rfl ?_;refine cl rfl rfl (dE _ _ (by omega)) rfl ?_;refine r0 rfl ?_;refine aF rfl (au.of_eq (congrArg iE ?_));unfold xn;by_cases hz:z<0<;>simp[hz]<;>omega
theorem lR{m n K:Nat}(h1:(aa m).length<=K)(h2:(aa n).length<=K):(aa (m+n)).length<=K+1:=by
 rcases eM (m+n)with g|g
 ·rw[g];simp
 have g1:=bq m;have g2:=bq n;have p1:=fN h1;have p2:=fN h2;rcases Nat.lt_or_ge (K+1) (aa (m+n)).length with h|h
 ·have p3:=fN (show K+1<=(aa (m+n)).length-1 by omega);rw[Int.pow_succ]at p3;have:=bV K;omega
 omega
theorem HR(x y:Int)(hx:Ek x)(hy:Ek y):aO Tryz.prog 212 [iE x,iE y] (iE (x+y)):=by
 unfold Ek at hx hy;have We:∀m n:Nat,(aa m).length<2^34->(aa n).length<2^34->(aa (m+n)).length<2^60:=by intro m n h1 h2;have:=lR (K:=max (aa m).length (aa n).length) (Nat.le_max_left _ _) (Nat.le_max_right _ _);omega
 refine enter (fn:=Tryz.f212) Tryz.func212 rfl rfl rfl rfl ?_;refine r0 rfl ?_;refine br rfl rfl rfl (fun h=>?_) (fun h=>?_)
 ·refine r0 rfl ?_;refine cd rfl rfl (xk _ _ (by omega) (by omega)) rfl ?_;refine r0 rfl ?_;refine cd rfl rfl (dE _ _ (We _ _ hx hy)) rfl ?_;refine k0 rfl (by kernel_rfl) ?_;refine aF rfl (au.of_eq (congrArg iE ?_));unfold xn;by_cases h1:x<0<;>by_cases h2:y<0<;>simp[h1,h2]at h⊢ <;>omega
 refine r0 rfl ?_;refine cl rfl rfl (kz _ _ (by omega) (by omega)) rfl ?_;refine r0 rfl ?_;refine br rfl rfl rfl (fun h3=>?_) (fun h3=>?_)
 ·have hle:y.natAbs<=x.natAbs:=by unfold l9 at h3;split at h3<;>omega
  refine r0 rfl ?_;refine cd rfl rfl (oI _ _ (by omega) hle) rfl ?_;refine r0 rfl ?_;have hlen:(aa (x.natAbs-y.natAbs)).length<2^60:=by
   rcases Nat.lt_or_ge (aa x.natAbs).length (aa (x.natAbs-y.natAbs)).length with g|g
   ·have:=bz g;omega
   omega
  refine cd rfl rfl (dE _ _ hlen) rfl ?_;refine k0 rfl (by kernel_rfl) ?_;refine aF rfl (au.of_eq (congrArg iE ?_));unfold xn;by_cases h1:x<0<;>by_cases h2:y<0<;>simp[h1,h2]at h⊢ <;>omega
 have hle:x.natAbs<=y.natAbs:=by
  unfold l9 at h3;split at h3
  ·omega
  split at h3<;>omega
 refine r0 rfl ?_;refine cd rfl rfl (oI _ _ (by omega) hle) rfl ?_;refine r0 rfl ?_;have hlen:(aa (y.natAbs-x.natAbs)).length<2^60:=by
  rcases Nat.lt_or_ge (aa y.natAbs).length (aa (y.natAbs-x.natAbs)).length with g|g
  ·have:=bz g;omega
  omega
 refine cd rfl rfl (dE _ _ hlen) rfl ?_;refine k0 rfl (by kernel_rfl) ?_;refine aF rfl (au.of_eq (congrArg iE ?_));unfold xn;by_cases h1:x<0<;>by_cases h2:y<0<;>simp[h1,h2]at h⊢ <;>omega
theorem fQ(m n:Nat):(aa (m*n)).length<=(aa m).length+(aa n).length:=by
 rcases eM (m*n)with g|g
 ·rw[g];simp
 have g1:=bq m;have g2:=bq n;rcases Nat.lt_or_ge ((aa m).length+(aa n).length) (aa (m*n)).length with h|h
 ·have p3:=fN (show(aa m).length+(aa n).length<=(aa (m*n)).length-1 by omega);rw[Int.pow_add]at p3;have a1:(m:Int)*n<=1000000000^(aa m).length*n:=eC (by omega) (by omega);have a2:(1000000000:Int)^(aa m).length*n<1000000000^(aa m).length*1000000000^(aa n).length:=Int.mul_lt_mul_of_pos_left g2 (bV _);rw[Int.natCast_mul]at g;omega
 exact h
theorem jU(x y:Int)(hx:Ek x)(hy:Ek y):aO Tryz.prog 101 [iE x,iE y] (iE (x*y)):=by
 unfold Ek at hx hy;refine enter (fn:=Tryz.f101) Tryz.func101 rfl rfl rfl rfl ?_;refine r0 rfl ?_;refine cd rfl rfl (kp _ _ (by omega) (by omega)) rfl ?_;refine r0 rfl ?_;have hl:=fQ x.natAbs y.natAbs;refine cd rfl rfl (dE _ _ (by omega)) rfl ?_;refine k0 rfl (by kernel_rfl) ?_;refine aF rfl (au.of_eq (congrArg iE ?_));rw[<-Int.natAbs_mul];unfold xn;rcases Int.lt_trichotomy x 0 with h1|h1|h1<;>rcases Int.lt_trichotomy y 0 with h2|h2|h2
 ·have:0<x*y:=Int.mul_pos_of_neg_of_neg h1 h2;simp[h1,h2];omega
 ·subst h2;simp
 ·have:x*y<0:=Int.mul_neg_of_neg_of_pos h1 h2;simp[h1,show¬y<0 by omega];omega
 ·subst h1;simp
 ·subst h1;simp
 ·subst h1;simp
 ·have:x*y<0:=Int.mul_neg_of_pos_of_neg h1 h2;simp[show¬x<0 by omega,h2];omega
 ·subst h2;simp
 have:0<x*y:=Int.mul_pos h1 h2;simp[show¬x<0 by omega,show¬y<0 by omega];omega
theorem tI(m n:Nat)(h1:(aa m).length<2^36)(h2:(aa n).length<2^36):aO Tryz.prog 65 [.ints .i64 false (aa m),.ints .i64 false (aa n)] (.ints .i64 false (aa (Nat.gcd m n))):=by
 refine enter (fn:=Tryz.f65) Tryz.func65 rfl rfl rfl rfl ?_;refine r0 rfl ?_;refine lP (fun(a b:Nat)=>[(0,.ints .i64 false (aa a)),(1,.ints .i64 false (aa b))]) (fun a b=>Nat.gcd a b=Nat.gcd m n/\(aa a).length<2^36/\(aa b).length<2^36) (fun _ b=>b) m n ⟨rfl,h1,h2⟩ ⟨⟨rfl,rfl⟩,⟨rfl,rfl⟩,trivial⟩ ?_;rintro a b⟨hg,ha,hb⟩;refine r0 rfl ?_;refine br rfl rfl rfl (fun h=>?_) (fun h=>?_)
 ·have cU:b≠0:=(kK b).1 (by omega);have cB:a%b<b:=Nat.mod_lt _ (by omega);refine r0 rfl ?_;refine cl rfl rfl (ku a b ha hb cU) rfl ?_;refine r0 rfl ?_;refine again (b,a%b) cB ⟨?_,hb,?_⟩ ⟨⟨rfl,rfl⟩,⟨rfl,rfl⟩,trivial⟩
  ·dsimp only;rw[<-hg,Nat.gcd_comm a b,Nat.gcd_rec b a,Nat.gcd_comm]
  dsimp only;rcases Nat.lt_or_ge (aa b).length (aa (a%b)).length with g|g
  ·have:=bz g;omega
  omega
 have cU:b=0:=by
  rcases Nat.eq_zero_or_pos b with h'|h'
  ·exact h'
  have:=dm (show b≠0 by omega);omega
 subst cU;refine r0 rfl ?_;refine aF rfl (au.of_eq (congrArg (SV.ints .i64 false) ?_));rw[<-hg,Nat.gcd_zero_right]
theorem og{m:Nat}(h:m<1000000000000000000000000000):(aa m).length<=3:=by
 rcases eM m with g|g
 ·rw[g];simp
 rcases Nat.lt_or_ge 3 (aa m).length with h'|h'
 ·have:=fN (show 3<=(aa m).length-1 by omega);have e:(1000000000:Int)^3=1000000000000000000000000000:=by decide
  omega
 exact h'
theorem eB(n:Int)(h: -9223372036854775808<n/\n<=9223372036854775807):aO Tryz.prog 126 [.i n] (iE n):=by
 refine enter (fn:=Tryz.f126) Tryz.func126 rfl rfl rfl rfl ?_;refine r0 rfl ?_;refine lP (fun(x:Int)(w:List Int)=>[(0,.i x),(2,.box true (.agg [.b false,.nil])),(3,.ints .i64 true w),(4,.u (decide (n<0)))])
  (fun x w=>fD w/\w++aa x.natAbs=aa n.natAbs/\(n<0->x<=0)/\(0<=n->0<=x)/\x.natAbs<=n.natAbs) (fun x _=>x.natAbs) n [] ⟨by simp[fD],by simp,fun h=>by omega,fun h=>h,Nat.le_refl _⟩ ⟨⟨rfl,rfl⟩,⟨rfl,rfl⟩,⟨rfl,rfl⟩,⟨rfl,rfl⟩,trivial⟩ ?_
 rintro x w⟨wd,wv,hx1,MR,hx3⟩;have hwl:w.length<=3:=by have:=og (m:=n.natAbs) (by omega);rw[<-wv]at this;simp at this;omega
 refine r0 rfl ?_;refine br rfl rfl rfl (fun h1=>?_) (fun h1=>?_)
 ·have ht:x.tdiv 1000000000=(if x<0 then -((x.natAbs/1000000000:Nat):Int)else((x.natAbs/1000000000:Nat):Int)):=by
   split
   ·rename_i oX;have:x= -(x.natAbs:Int):=by omega
    rw[this,Int.neg_tdiv,Int.tdiv_eq_ediv_of_nonneg (by omega)];simp
   have:x=(x.natAbs:Int):=by omega
   rw[this,Int.tdiv_eq_ediv_of_nonneg (by omega)];simp
  have hm:x.tmod 1000000000=(if x<0 then -((x.natAbs%1000000000:Nat):Int)else((x.natAbs%1000000000:Nat):Int)):=by
   split
   ·rename_i oX;have:x= -(x.natAbs:Int):=by omega
    rw[this,Int.neg_tmod,Int.tmod_eq_emod_of_nonneg (by omega)];simp
   have:x=(x.natAbs:Int):=by omega
   rw[this,Int.tmod_eq_emod_of_nonneg (by omega)];simp
  have Y9:aa x.natAbs=((x.natAbs%1000000000:Nat):Int)::aa (x.natAbs/1000000000):=by
   conv=>lhs;rw[aa]
   rw[dif_neg (by omega)];rfl
  have hq:x.natAbs/1000000000<x.natAbs:=Nat.div_lt_self (by omega) (by decide);have hr:x.natAbs%1000000000<1000000000:=Nat.mod_lt _ (by decide);have Yl:IntKind.i64.wrap (x.tdiv 1000000000)=x.tdiv 1000000000:=mV ⟨by rw[ht];split<;>omega,by rw[ht];split<;>omega⟩;refine kw [11,21] rfl rfl (by simp only[ae,and_true];omega) ?_;refine br rfl rfl rfl (fun h2=>?_) (fun h2=>?_)
  ·have oX:x<0:=by
    rcases Int.lt_or_le x 0 with h'|h'
    ·exact h'
    rw[hm,if_neg (by omega)]at h2;omega
   rw[hm,if_pos oX]at h2;refine kw [21] rfl rfl (by simp only[ae,and_true,len,hm,if_pos oX,List.length_cons,List.length_nil];omega) ?_;refine again (x.tdiv 1000000000,w++[((x.natAbs%1000000000:Nat):Int)]) ?_ ⟨gG wd (by omega),?_,?_,?_,?_⟩
    ⟨⟨rfl,au.of_eq (congrArg SV.i Yl)⟩,⟨rfl,rfl⟩,⟨rfl,au.of_eq (congrArg (SV.ints .i64 true) (by rw[hm,if_pos oX];congr 2;omega))⟩,⟨rfl,rfl⟩,trivial⟩
   all_goals dsimp only;rw[ht,if_pos oX]
   ·omega
   ·rw[List.append_assoc,Int.natAbs_neg,Int.natAbs_natCast,<-wv,Y9];rfl
   ·intro;omega
   ·intro;omega
   omega
  have pJ:x.tmod 1000000000=((x.natAbs%1000000000:Nat):Int):=by
   rw[hm];split
   ·rename_i oX;rw[hm,if_pos oX]at h2;omega
   rfl
  refine kw [21] rfl rfl (by simp only[ae,and_true,len,pJ,List.length_cons,List.length_nil];omega) ?_;refine again (x.tdiv 1000000000,w++[((x.natAbs%1000000000:Nat):Int)]) ?_ ⟨gG wd (by omega),?_,?_,?_,?_⟩
   ⟨⟨rfl,au.of_eq (congrArg SV.i Yl)⟩,⟨rfl,rfl⟩,⟨rfl,au.of_eq (congrArg (SV.ints .i64 true) (by rw[pJ]))⟩,⟨rfl,rfl⟩,trivial⟩
  all_goals dsimp only;rw[ht]
  ·split<;>omega
  ·have:(if x<0 then -((x.natAbs/1000000000:Nat):Int)else((x.natAbs/1000000000:Nat):Int)).natAbs=x.natAbs/1000000000:=by split<;>omega
   rw[List.append_assoc,this,<-wv,Y9];rfl
  ·intro;split<;>omega
  ·intro;split<;>omega
  split<;>omega
 have:x=0:=by omega
 subst this;have hw:w=aa n.natAbs:=by rw[<-wv];simp[b9]
 refine r0 rfl ?_;refine cl rfl rfl (by rw[hw];exact dE _ _ (by rw[<-hw];omega)) rfl ?_;refine r0 rfl ?_;refine aF rfl (au.of_eq (congrArg iE ?_));unfold xn;by_cases hn:n<0<;>simp[hn]<;>omega
theorem PI:∀d:Nat,d<10->((([48,49,50,51,52,53,54,55,56,57]:bw).take (d+1)).drop d)=[MZ d]:=by decide
theorem jP(n k:Nat)(hn:n<9223372036854775808)(hk:k<1000):aO Tryz.prog 178 [.i n,.i k] (.s (decl n k)):=by
 have hlen:(decl n k).length<=max k 19:=dp n k _ (Nat.lt_of_lt_of_le (show n<10^19 by omega) (Nat.pow_le_pow_right (by decide) (Nat.le_max_right _ _))) (Nat.le_max_left _ _);refine enter (fn:=Tryz.f178) Tryz.func178 rfl rfl rfl rfl ?_;refine r0 rfl ?_;refine lP (fun(a:Nat)(s:bw)=>[(0,.i a),(1,.i k),(5,.s s)]) (fun a s=>a<=n/\decl n k=decl a (k-s.length)++s) (fun a s=>a+(k-s.length)) n [] ⟨Nat.le_refl _,by simp⟩ ⟨⟨rfl,rfl⟩,⟨rfl,rfl⟩,⟨rfl,rfl⟩,trivial⟩ ?_;rintro a s⟨ha,hs⟩;have yV:s.length<1001:=by rw[hs]at hlen;simp at hlen;omega
 refine D9 (Wz [(0,.i a),(1,.i k),(5,.s s)] (0<a\/s.length<k) ?_ fun hc=>?_)
 ·refine r0 rfl ?_;refine aB 8 rfl (fun h=>?_) (fun h=>?_)
  ·refine r0 rfl ?_;exact aQ (by omega) ⟨⟨rfl,rfl⟩,⟨rfl,rfl⟩,⟨rfl,rfl⟩,trivial⟩
  refine r0 rfl ?_;refine br rfl rfl rfl (fun h2=>?_) (fun h2=>?_)
  ·refine r0 rfl ?_;exact aQ (by omega) ⟨⟨rfl,rfl⟩,⟨rfl,rfl⟩,⟨rfl,rfl⟩,trivial⟩
  refine r0 rfl ?_;refine aF rfl (au.of_eq (congrArg SV.s ?_));have h1:a=0:=by omega
  have h3:k-s.length=0:=by omega
  rw[hs,h1,h3,bR];rfl
 have hd:a%10<10:=Nat.mod_lt _ (by decide);have e1:(((a:Int)%10).toNat)=a%10:=by omega
 have e2:(((a:Int)%10+1).toNat)=a%10+1:=by omega
 have hds:=PI (a%10) hd;refine r1 rfl ?_ ?_
 ·simp only[ae,and_true,e1,e2,hds];simp only[List.length_cons,List.length_nil];omega
 simp only[e1,e2,hds];have hq:a/10<a\/a=0:=by omega
 refine again (a/10,MZ (a%10)::s) ?_ ⟨by dsimp only;omega,?_⟩ ⟨⟨rfl,rfl⟩,⟨rfl,rfl⟩,⟨rfl,rfl⟩,trivial⟩
 ·dsimp only[List.length_cons];omega
 dsimp only;rw[hs,bc (n:=a) (by omega),List.append_assoc]
 congr 1
theorem mh(s:bw)(hs:cp s)(hl:s.length<=18):aO Tryz.prog 176 [.s s] (.i (bL s)):=by
 refine enter (fn:=Tryz.f176) Tryz.func176 rfl rfl rfl rfl ?_;refine r0 rfl ?_;refine loop (fun i:Nat=>[(0,.s s),(3,.i (bL (s.take i))),(4,.i i)]) (fun i=>i<=s.length) (fun i=>s.length-i) 0 (by omega) ⟨⟨rfl,rfl⟩,⟨rfl,rfl⟩,⟨rfl,rfl⟩,trivial⟩ ?_;intro i hi;refine r0 rfl ?_;refine br rfl rfl rfl (fun h=>?_) (fun h=>?_)
 ·have cO:i<s.length:=by omega
  have ei:(i:Int).toNat=i:=by omega
  have hc:s.getD i 0=s[i]:=by simp[List.getD_eq_getElem?_getD,List.getElem?_eq_getElem cO]
  have hd:=hs s[i] (List.getElem_mem cO);have hv:=jK (s:=s.take i) fun c hc=>hs c (List.mem_of_mem_take hc);have hp:10^(s.take i).length<=10^17:=Nat.pow_le_pow_right (by decide) (by simp;omega);refine r1 rfl (by simp only[ae,and_true,ei,hc];omega) ?_;refine again (i+1) (by omega) (by omega) ⟨⟨rfl,rfl⟩,⟨rfl,au.of_eq (congrArg SV.i ?_)⟩,⟨rfl,rfl⟩,trivial⟩;rw[ei,hc,List.take_succ_eq_append_getElem cO,qu];omega
 have:i=s.length:=by omega
 subst this;refine r0 rfl ?_;refine aF rfl (au.of_eq (congrArg SV.i ?_));rw[List.take_of_length_le (Nat.le_refl _)]
theorem mn(s:bw)(hl:s.length<2^60):aO Tryz.prog 62 [.s s] (.i (aj s)):=by
 have yV:=kP s;refine enter (fn:=Tryz.f62) Tryz.func62 rfl rfl rfl rfl ?_;refine r0 rfl ?_;refine loop (fun i:Nat=>[(0,.s s),(3,.i i)]) (fun i=>i<=aj s) (fun i=>s.length-i) 0 (by omega) ⟨⟨rfl,rfl⟩,⟨rfl,rfl⟩,trivial⟩ ?_;intro i hi;refine r0 rfl ?_;refine br rfl rfl rfl (fun h=>?_) (fun h=>?_)
 ·have ei:(i:Int).toNat=i:=by omega
  refine r1 rfl (by simp only[ae,and_true,ei];omega) ?_;refine br rfl rfl rfl (fun h2=>?_) (fun h2=>?_)
  ·rw[ei]at h2;refine r0 rfl ?_;refine aF rfl (au.of_eq (congrArg SV.i ?_));rcases Nat.lt_or_ge i (aj s)with h3|h3
   ·have:=qV h3;exact absurd (UInt8.toNat_inj.1 (show(s.getD i 0).toNat=(47:UInt8).toNat by simpa using Int.ofNat.inj h2)) this
   have:i=aj s:=by omega
   rw[this]
  rw[ei]at h2;have:i<aj s:=by
   rcases Nat.lt_or_ge i (aj s)with h3|h3
   ·exact h3
   have h4:i=aj s:=by omega
   have:=ux (s:=s) (by omega);rw[<-h4]at this;rw[this]at h2;exact absurd rfl h2
  refine r1 rfl (by simp only[ae,and_true];omega) ?_;exact again (i+1) (by omega) (by omega) ⟨⟨rfl,rfl⟩,⟨rfl,rfl⟩,trivial⟩
 refine r0 rfl ?_;refine aF rfl (au.of_eq (congrArg SV.i ?_));omega
theorem Mk(a b:Nat):aO Tryz.prog 177 [.i a,.i b] (.i (Nat.gcd a b)):=by
 refine enter (fn:=Tryz.f177) Tryz.func177 rfl rfl rfl rfl ?_;refine r0 rfl ?_;refine lP (fun(x y:Nat)=>[(0,.i x),(1,.i y)]) (fun x y=>Nat.gcd x y=Nat.gcd a b) (fun _ y=>y) a b rfl ⟨⟨rfl,rfl⟩,⟨rfl,rfl⟩,trivial⟩ ?_;rintro x y hg;refine r0 rfl ?_;refine br rfl rfl rfl (fun h=>?_) (fun h=>?_)
 ·refine k1 rfl (by kernel_rfl) (by simp only[ae,and_true];omega) ?_;refine again (y,x%y) (Nat.mod_lt _ (by omega)) ?_ ⟨⟨rfl,rfl⟩,⟨rfl,rfl⟩,trivial⟩;dsimp only;rw[<-hg,Nat.gcd_comm x y,Nat.gcd_rec y x,Nat.gcd_comm]
 have:y=0:=by omega
 subst this;refine r0 rfl ?_;refine aF rfl (au.of_eq (congrArg SV.i ?_));rw[<-hg,Nat.gcd_zero_right]
theorem tE{q:Nat}(h:0<q):decl q 0=decl q 1:=by rw[bc (by omega),bc (n:=q) (k:=1) (by omega)]
theorem GA{n j:Nat}(h:j<(aa n).length):0<val ((aa n).drop j):=by
 have h1:((aa n).drop j).getLast?≠some 0:=by rw[List.getLast?_drop,if_neg (by omega)];exact nF n
 rcases ov (l0 (a8 n) j) h1 with g|g
 ·have:=congrArg List.length g;simp at this;omega
 have:=bV (((aa n).drop j).length-1);omega
theorem sS(k:Nat):(1000000000:Int)^k=((10^(9*k):Nat):Int):=by rw[Nat.pow_mul];simp
theorem zL(n j:Nat)(hj:j<(aa n).length):(decl (val ((aa n).drop j)).toNat 1).length<=9*(aa n).length:=by have h1:=fI (l0 (a8 n) j);have h0:=aT (l0 (a8 n) j);rw[sS]at h1;have h2:10^(9*((aa n).drop j).length)<=10^(9*(aa n).length):=Nat.pow_le_pow_right (by decide) (by simp;omega);exact dp _ _ _ (by omega) (by omega)
theorem xM(z:Int)(h:(aa z.natAbs).length<2^44):aO Tryz.prog 180 [iE z] (.s (bM z)):=by
 refine enter (fn:=Tryz.f180) Tryz.func180 rfl rfl rfl rfl ?_;refine r0 rfl ?_;refine br rfl rfl rfl (fun h1=>?_) (fun h1=>?_)
 ·refine r0 rfl ?_;refine aF rfl (au.of_eq (congrArg SV.s ?_));have:z=0:=by
   have:=kK z.natAbs;omega
  subst this;simp[bM,bc,bR];rfl
 have hL:0<(aa z.natAbs).length:=by omega
 have hd:=aU (a8 z.natAbs) ((aa z.natAbs).length-1);have hv:val ((aa z.natAbs).drop ((aa z.natAbs).length-1))=(aa z.natAbs).getD ((aa z.natAbs).length-1) 0:=by rw[eR (by omega),List.drop_of_length_le (by omega)];simp[val]
 have hp:=GA (n:=z.natAbs) (j:=(aa z.natAbs).length-1) (by omega);have ei:(((aa z.natAbs).length:Int)-1).toNat=(aa z.natAbs).length-1:=by omega
 refine r1 rfl (by simp only[ae,and_true];omega) ?_;obtain⟨m,hm⟩:∃m:Nat,(aa z.natAbs).getD ((aa z.natAbs).length-1) 0=m:=⟨_,(Int.toNat_of_nonneg hd.1).symm⟩;have hO:(aa z.natAbs).getD (((aa z.natAbs).length:Int)-1).toNat 0=m:=by rw[ei];exact hm
 have es:(SV.i ((aa z.natAbs).getD (((aa z.natAbs).length:Int)-1).toNat 0))=SV.i (m:Int):=by rw[hO]
 refine cl rfl (by rw[hO];rfl) (jP m 1 (by omega) (by omega)) rfl ?_;refine r1 rfl (by simp only[ae,and_true];omega) ?_;refine loop (fun j:Nat=>[(1,.box true (iE z)),(2,.s []),(3,.s (decl (val ((aa z.natAbs).drop j)).toNat 1)),(4,.i ((j:Int)-1))]) (fun j=>j<(aa z.natAbs).length) (fun j=>j) ((aa z.natAbs).length-1) (by omega) ⟨⟨rfl,rfl⟩,⟨rfl,rfl⟩,⟨rfl,au.of_eq (congrArg SV.s (by rw[hv,hm];rfl))⟩,⟨rfl,au.of_eq (congrArg SV.i (by omega))⟩,trivial⟩ ?_;intro j hj;refine r0 rfl ?_;refine br rfl rfl rfl (fun h2=>?_) (fun h2=>?_)
 ·have ej:((j:Int)-1).toNat=j-1:=by omega
  have hd:=aU (a8 z.natAbs) (j-1);obtain⟨m,hm⟩:∃m:Nat,(aa z.natAbs).getD (j-1) 0=m:=⟨_,(Int.toNat_of_nonneg hd.1).symm⟩;have hO:(aa z.natAbs).getD ((j:Int)-1).toNat 0=m:=by rw[ej];exact hm
  have hl:=zL z.natAbs j hj;have Ir:=zL z.natAbs (j-1) (by omega);have hp:=GA hj;have nM:decl (val ((aa z.natAbs).drop (j-1))).toNat 1=decl (val ((aa z.natAbs).drop j)).toNat 1++decl m 9:=by
   rw[eR (by omega),show j-1+1=j by omega,hm];have e:((m:Int)+1000000000*val ((aa z.natAbs).drop j)).toNat=(val ((aa z.natAbs).drop j)).toNat*10^9+m:=by omega
   rw[e,sf (by omega) 9 m 1 (by omega),show 1-9=0 from rfl,tE (by omega)]
  refine r1 rfl (by simp only[ae,and_true];omega) ?_;refine cl rfl (by rw[hO];rfl) (jP m 9 (by omega) (by omega)) rfl ?_;refine r1 rfl (by simp only[ae,and_true,len];rw[nM]at Ir;simp only[List.length_append]at Ir;omega) ?_;exact again (j-1) (by omega) (by omega) ⟨⟨rfl,rfl⟩,⟨rfl,rfl⟩,⟨rfl,au.of_eq (congrArg SV.s nM.symm)⟩,⟨rfl,au.of_eq (congrArg SV.i (by omega))⟩,trivial⟩
 have:j=0:=by omega
 subst this;have e:(val ((aa z.natAbs).drop 0)).toNat=z.natAbs:=by rw[List.drop_zero,aX];omega
 have hl:=zL z.natAbs 0 hj;refine r0 rfl ?_;refine o5 rfl rfl rfl (fun h3=>?_) (fun h3=>?_)
 ·refine r1 rfl (by simp only[ae,and_true,len,List.length_cons,List.length_nil];omega) ?_;refine aF rfl (au.of_eq (congrArg SV.s ?_));rw[e];unfold bM;rw[if_pos (by simpa using h3)];rfl
 refine r0 rfl ?_;refine aF rfl (au.of_eq (congrArg SV.s ?_));rw[e];unfold bM;rw[if_neg (by simpa using h3)]
def isNeg(s:bw):Bool:=decide (0<s.length/\(s.getD 0 0).toNat=45)
def ba(s:bw):bw:=if isNeg s then s.drop 1 else s
def yP(s:bw):Int:=xn (isNeg s) (bL (ba s))
theorem tS(s:bw):(ba s).length<=s.length:=by unfold ba;split<;>simp
theorem wk(s:bw)(hs:cp (ba s))(hl:s.length<2^46):aO Tryz.prog 125 [.s s] (iE (yP s)):=by
 have F6:=tS s;refine enter (fn:=Tryz.f125) Tryz.func125 rfl rfl rfl rfl ?_;refine cg 3 [(0,.s (ba s)),(2,.box true (.agg [.b false,.nil])),(3,.u (isNeg s))] True ?_ fun _=>?_
 ·refine r0 rfl ?_;refine aB 8 rfl (fun h=>?_) (fun h=>?_)
  ·refine r1 rfl (by simp only[ae,and_true];omega) ?_;refine br rfl rfl rfl (fun h2=>?_) (fun h2=>?_)
   ·have hn:isNeg s=true:=by unfold isNeg;exact decide_eq_true ⟨by omega,by simpa using Int.ofNat.inj h2⟩
    refine r1 rfl (by simp only[ae,and_true];omega) ?_;refine aQ trivial ⟨⟨rfl,au.of_eq (congrArg SV.s (by simp[ba,hn]))⟩,⟨rfl,rfl⟩,⟨rfl,au.of_eq (congrArg SV.u ((decide_eq_true h2).trans hn.symm))⟩,trivial⟩
   have hn:isNeg s=false:=by unfold isNeg;exact decide_eq_false fun hh=>h2 (by rw[show(s.getD (0:Int).toNat 0).toNat=45 from hh.2];rfl)
   refine r0 rfl ?_;refine aQ trivial ⟨⟨rfl,au.of_eq (congrArg SV.s (by simp[ba,hn]))⟩,⟨rfl,rfl⟩,⟨rfl,au.of_eq (congrArg SV.u ((decide_eq_false h2).trans hn.symm))⟩,trivial⟩
  have hn:isNeg s=false:=by unfold isNeg;exact decide_eq_false fun hh=>by omega
  refine r0 rfl ?_;refine aQ trivial ⟨⟨rfl,au.of_eq (congrArg SV.s (by unfold ba;rw[hn];rfl))⟩,⟨rfl,rfl⟩,⟨rfl,hn.symm⟩,trivial⟩
 refine r0 rfl ?_;refine lP (fun(t:bw)(w:List Int)=>[(0,.s t),(2,.box true (.agg [.b false,.nil])),(3,.u (isNeg s)),(4,.ints .i64 true w)])
  (fun t w=>cp t/\fD w/\val w+1000000000^w.length*bL t=bL (ba s)/\t.length+9*w.length<2^46) (fun t _=>t.length) (ba s) [] ⟨hs,by simp[fD],by simp[val],by simp;omega⟩ ⟨⟨rfl,rfl⟩,⟨rfl,rfl⟩,⟨rfl,rfl⟩,⟨rfl,rfl⟩,trivial⟩ ?_
 rintro t w⟨ht,hw,hv,hlen⟩;refine r0 rfl ?_;refine br rfl rfl rfl (fun h2=>?_) (fun h2=>?_)
 ·have et:((t.length:Int)-9).toNat=t.length-9:=by omega
  refine r1 rfl (by simp only[ae,and_true];omega) ?_;have O8:cp (t.drop (t.length-9)):=fun c hc=>ht c (List.mem_of_mem_drop hc);have cB:=jK O8;have hll:(t.drop (t.length-9)).length=9:=by simp;omega
  rw[hll]at cB;have acz:bL t=bL (t.take (t.length-9))*10^9+bL (t.drop (t.length-9)):=by
   conv=>lhs;rw[<-List.take_append_drop (t.length-9) t,pA]
   rw[hll]
  refine cl rfl (by rw[et,List.take_length];rfl) (mh _ O8 (by omega)) rfl ?_;refine r1 rfl (by simp only[ae,and_true,len,List.length_cons,List.length_nil];omega) ?_;refine again (t.take (t.length-9),w++[(bL (t.drop (t.length-9)):Int)]) ?_ ⟨fun c hc=>ht c (List.mem_of_mem_take hc),gG hw (by omega),?_,?_⟩ ⟨⟨rfl,au.of_eq (congrArg SV.s (by rw[et];rfl))⟩,⟨rfl,rfl⟩,⟨rfl,rfl⟩,⟨rfl,rfl⟩,trivial⟩
  ·dsimp only;simp;omega
  ·have T5:(bL t:Int)=(bL (t.take (t.length-9)):Int)*1000000000+(bL (t.drop (t.length-9)):Int):=by omega
   dsimp only;rw[<-hv,dw,T5,List.length_append,List.length_singleton,Int.pow_succ];clear hs hl hv hlen cB acz T5 O8 ht F6
   grind
  dsimp only;rw[List.length_take,List.length_append,List.length_singleton];omega
 have cB:=jK ht;have:10^t.length<=10^9:=Nat.pow_le_pow_right (by decide) (by omega);refine r0 rfl ?_;refine cl rfl rfl (mh t ht (by omega)) rfl ?_;refine r1 rfl (by simp only[ae,and_true,len,List.length_cons,List.length_nil];omega) ?_;refine cl rfl rfl (sG (isNeg s) (w++[(bL t:Int)]) (gG hw (by omega)) (by simp;omega)) rfl ?_;refine r0 rfl ?_;refine aF rfl (au.of_eq (congrArg iE ?_));unfold yP;rw[<-hv,dw,Int.mul_comm]
theorem nw(z:Int){k:Nat}(h:(aa z.natAbs).length<=k):(bM z).length<=9*k+2:=by have h1:=bq z.natAbs;rw[sS]at h1;have h2:10^(9*(aa z.natAbs).length)<=10^(9*k):=Nat.pow_le_pow_right (by decide) (by omega);have h3:10^(9*k)<=10^(9*k+1):=Nat.pow_le_pow_right (by decide) (by omega);have:=dp z.natAbs 1 (9*k+1) (by omega) (by omega);unfold bM;split<;>simp<;>omega
theorem lT(z:Int):isNeg (bM z)=decide (z<0):=by
 unfold bM isNeg;split
 ·rename_i h;simp[h]
 rename_i h;have hd:=bN z.natAbs 1;simp only[h,decide_false,decide_eq_false_iff_not];rintro⟨h1,h2⟩;have hm:(decl z.natAbs 1).getD 0 0∈decl z.natAbs 1:=by rw[List.getD_eq_getElem?_getD,List.getElem?_eq_getElem h1];simp
 have:=hd _ hm;omega
theorem ik(z:Int):ba (bM z)=decl z.natAbs 1:=by unfold ba;rw[lT];by_cases h:z<0<;>simp[h,bM]
theorem uQ(z:Int):yP (bM z)=z:=by unfold yP;rw[lT,ik,iM];unfold xn;by_cases h:z<0<;>simp[h]<;>omega
theorem n6(z:Int)(h:(aa z.natAbs).length<2^42):aO Tryz.prog 125 [.s (bM z)] (iE z):=by have:=wk (bM z) (by rw[ik];exact bN _ _) (Nat.lt_of_le_of_lt (nw z (Nat.le_of_lt h)) (by decide));rwa[uQ]at this
def dD(d:Nat):bw:=if d=1 then[]else 47::decl d 1
def qJ(n:Int)(d:Nat):bw:=bM n++dD d
def qt(q:Rat):bw:=qJ q.num q.den
theorem mH:∀{s:bw}(t:bw),(∀c∈s,c≠47)->aj (s++t)=s.length+aj t
 |[],t,_=>by simp
 |c::s,t,h=>by have:=mH (s:=s) t fun x hx=>h x (by simp[hx]);simp only[List.cons_append,aj,if_neg (h c (by simp)),this,List.length_cons];omega
theorem vI{s:bw}(h:cp s):∀c∈s,c≠47:=by rintro c hc rfl;have:=(h _ hc).1;exact absurd this (by decide)
theorem RO(z:Int):∀c∈bM z,c≠47:=by
 intro c hc;unfold bM at hc;split at hc
 ·rcases List.mem_cons.1 hc with rfl|hc
  ·decide
  exact vI (bN _ _) c hc
 exact vI (bN _ _) c hc
theorem sF(d:Nat):aj (dD d)=0:=by unfold dD;split<;>simp[aj]
theorem nU(n:Int)(d:Nat):aj (qJ n d)=(bM n).length:=by unfold qJ;rw[mH _ (RO n),sF];omega
theorem FG(z:Int):0<(bM z).length:=by have:=List.length_pos_iff.2 (SJ z.natAbs (k:=1) (by decide));unfold bM;split<;>simp<;>omega
theorem tj{s t:bw}(h:0<s.length):(s++t).getD 0 0=s.getD 0 0:=by simp[List.getD_eq_getElem?_getD,List.getElem?_append_left h]
theorem Di{s t:bw}(h:0<s.length):isNeg (s++t)=isNeg s:=by unfold isNeg;rw[tj h];congr 1;simp[h];omega
theorem uT(n:Int)(d:Nat):isNeg (qJ n d)=decide (n<0):=by unfold qJ;rw[Di (FG n),lT]
theorem KE(n:Int)(d:Nat):ba (qJ n d)=decl n.natAbs 1++dD d:=by unfold ba;rw[uT];by_cases h:n<0<;>simp[h,qJ,bM]
theorem sy(n:Int)(d:Nat):(qJ n d).take (bM n).length=bM n:=by unfold qJ;simp
theorem tz(n:Int)(d:Nat)(h:d≠1):(qJ n d).drop ((bM n).length+1)=decl d 1:=by unfold qJ dD;rw[if_neg h,List.drop_append];simp
theorem lQ(n:Int)(d:Nat):(qJ n d).length=(bM n).length+(dD d).length:=by unfold qJ;simp
theorem fK{d:Nat}:(dD d).length=0↔d=1:=by unfold dD;split<;>simp[*]
theorem Oy{a b:Int}(h:bM a=bM b):a=b:=by rw[<-uQ a,h,uQ]
theorem Rj{n m:Int}{d e:Nat}(h:qJ n d=qJ m e):n=m/\d=e:=by
 have h1:=nU n d;rw[h,nU]at h1;have h2:=sy n d;rw[h,<-h1,sy]at h2;refine⟨(Oy h2).symm,?_⟩;have h3:=congrArg List.length h;rw[lQ,lQ,h1]at h3;by_cases hd:d=1
 ·have:=fK.2 hd;have:=fK.1 (show(dD e).length=0 by omega);omega
 have he:e≠1:=by intro he;have:=fK.2 he;exact hd (fK.1 (by omega))
 have h4:=tz n d hd;rw[h,<-h1,tz m e he]at h4;have:=congrArg bL h4;rw[iM,iM]at this;exact this.symm
theorem NR{p q:Rat}:qt p=qt q↔p=q:=by
 constructor
 ·intro h;have:=Rj h;exact Rat.ext this.1 this.2
 rintro rfl;rfl
theorem GL(n:Nat){k:Nat}(h:(aa n).length<=k):(decl n 1).length<=9*k+1:=by have h1:=bq n;rw[sS]at h1;have h2:10^(9*(aa n).length)<=10^(9*k):=Nat.pow_le_pow_right (by decide) (by omega);have h3:10^(9*k)<=10^(9*k+1):=Nat.pow_le_pow_right (by decide) (by omega);exact dp n 1 (9*k+1) (by omega) (by omega)
theorem KV(d:Nat){k:Nat}(h:(aa d).length<=k):(dD d).length<=9*k+2:=by have:=GL d h;unfold dD;split<;>simp<;>omega
def Hi(q:Rat):Prop:=(aa q.num.natAbs).length<2^40/\(aa q.den).length<2^40
theorem yd{q:Rat}(h:Hi q):(qt q).length<2^45:=by have h1:=nw q.num (Nat.le_of_lt h.1);have h2:=KV q.den (Nat.le_of_lt h.2);unfold qt;rw[lQ];omega
theorem pX:aa 1=[1]:=kd (f:=1) (by decide) (by decide)
theorem cS(q:Rat)(h:Hi q):aO Tryz.prog 64 [.s (qt q)] (.bC [iE q.num,iE q.den]):=by
 have hl:=yd h;have h1:=h.1;have h2:=h.2;have es:aj (qt q)=(bM q.num).length:=nU _ _;have ahE:(qt q).length=(bM q.num).length+(dD q.den).length:=lQ _ _;refine enter (fn:=Tryz.f64) Tryz.func64 rfl rfl rfl rfl ?_;refine r0 rfl ?_;refine cl rfl rfl (mn (qt q) (by omega)) rfl ?_;refine r0 rfl ?_;refine br rfl rfl rfl (fun h3=>?_) (fun h3=>?_)
 ·have hd:q.den=1:=fK.1 (by omega);have et:qt q=bM q.num:=by unfold qt qJ;rw[hd];simp[dD]
  refine r0 rfl ?_;refine cl rfl (by rw[et];rfl) (n6 q.num (by omega)) rfl ?_;refine r0 rfl ?_;refine cl rfl rfl (eB 1 (by decide)) rfl ?_;refine r0 rfl ?_;refine aF rfl (au.of_eq (congrArg SV.bC ?_));rw[hd];rfl
 have hd:q.den≠1:=fun hd=>by have:=fK.2 hd;omega
 have Sg:=q.den_nz;have e1:((aj (qt q):Nat):Int).toNat=(bM q.num).length:=by omega
 have e2:(((aj (qt q):Nat):Int)+1).toNat=(bM q.num).length+1:=by omega
 have hp:0<(dD q.den).length:=by
  rcases Nat.eq_zero_or_pos (dD q.den).length with g|g
  ·exact absurd (fK.1 g) hd
  exact g
 have e3:(qt q).take (bM q.num).length=bM q.num:=sy _ _;have e4:(qt q).drop ((bM q.num).length+1)=decl q.den 1:=tz _ _ hd;refine r1 rfl (by simp only[ae,and_true];omega) ?_;refine cd rfl (by rw[e1,e3];rfl) (n6 q.num (by omega)) rfl ?_;refine r1 rfl (by simp only[ae,and_true];omega) ?_;have e5:bM (q.den:Int)=decl q.den 1:=by unfold bM;rw[if_neg (by omega)];rfl
 have YA:=n6 (q.den:Int) (by show(aa q.den).length<_;omega);rw[e5]at YA;refine cd rfl (by rw[e2,List.take_length,e4];rfl) YA rfl ?_;refine k0 rfl (by kernel_rfl) ?_;exact aF rfl (au.refl _)
theorem zg{n d:Int}(hd:0<d):(Rat.divInt n d).num=xn (decide (n<0)) ((n.natAbs/Nat.gcd n.natAbs d.natAbs:Nat):Int):=by
 rw[Rat.num_divInt,Int.sign_eq_one_of_pos hd,Int.one_mul];have e:d.gcd n=Nat.gcd n.natAbs d.natAbs:=by rw[Int.gcd_eq_natAbs_gcd_natAbs,Nat.gcd_comm]
 rw[e];unfold xn;by_cases h:n<0
 ·simp only[h,decide_true,if_true];have e2:n= -(n.natAbs:Int):=by omega
  have hg:(Nat.gcd n.natAbs d.natAbs:Int)∣(n.natAbs:Int):=Int.ofNat_dvd.2 (Nat.gcd_dvd_left _ _)
  conv=>lhs;rw[e2]
  rw[Int.neg_ediv_of_dvd (by simpa using hg)];simp
 simp only[h,decide_false,Bool.false_eq_true,if_false];have e2:n=(n.natAbs:Int):=by omega
 conv=>lhs;rw[e2]
 simp
theorem zj{n d:Int}(hd:0<d):(Rat.divInt n d).den=d.natAbs/Nat.gcd n.natAbs d.natAbs:=by rw[Rat.den_divInt,if_neg (by omega),Int.gcd_eq_natAbs_gcd_natAbs,Nat.gcd_comm]
theorem jz(a b:Nat):(aa (a/b)).length<=(aa a).length:=by
 rcases Nat.lt_or_ge (aa a).length (aa (a/b)).length with g|g
 ·have:=bz g;have:=Nat.div_le_self a b;omega
 exact g
theorem jw(b:Bool)(n:Nat):(xn b (n:Int)).natAbs=n:=by cases b<;>simp[xn]
theorem lv{d:Nat}(h:d≠1):dD d=47::decl d 1:=by unfold dD;rw[if_neg h]
theorem FH(d:Nat):bM (d:Int)=decl d 1:=by unfold bM;rw[if_neg (by omega)];rfl
theorem wN{q:Nat}:((aa q).length=1/\(aa q).getD 0 0=1)↔q=1:=by
 constructor
 ·rintro⟨h1,h2⟩;have h3:=aX q;have h4:aa q=[(aa q).getD 0 0]:=by
   match hq:aa q with
   |[]=>rw[hq]at h1;simp at h1
   |[x]=>rfl
   |x::y::l=>rw[hq]at h1;simp at h1
  rw[h4,h2]at h3;simp[val]at h3;omega
 rintro rfl;rw[pX];simp
theorem dS(n d:Int)(hd:d≠0)(h1:(aa n.natAbs).length<2^34)(h2:(aa d.natAbs).length<2^34):aO Tryz.prog 100 [iE n,iE d] (.s (qt (Rat.divInt n d))):=by
 refine enter (fn:=Tryz.f100) Tryz.func100 rfl rfl rfl rfl ?_;refine wO 2 (fun(n' d':Int)=>[(2,.box true (iE n')),(3,.box true (iE d'))]) (fun n' d'=>0<d'/\Rat.divInt n' d'=Rat.divInt n d/\n'.natAbs=n.natAbs/\d'.natAbs=d.natAbs) ?_ ?_
 ·refine r0 rfl ?_;refine o5 rfl rfl rfl (fun h=>?_) (fun h=>?_)
  ·have h:d<0:=of_decide_eq_true h;refine r0 rfl ?_;refine cd rfl rfl (wo n (by unfold Ek;omega)) rfl ?_;refine r0 rfl ?_;refine cd rfl rfl (wo d (by unfold Ek;omega)) rfl ?_;refine k0 rfl (by kernel_rfl) ?_;refine meet (-n,-d) ⟨?_,Rat.neg_divInt_neg _ _,?_,?_⟩ ⟨⟨rfl,rfl⟩,⟨rfl,rfl⟩,trivial⟩<;>dsimp only<;>omega
  have h:¬d<0:=of_decide_eq_false h;refine r0 rfl ?_;refine meet (n,d) ⟨?_,rfl,rfl,rfl⟩ ⟨⟨rfl,rfl⟩,⟨rfl,rfl⟩,trivial⟩;dsimp only;omega
 rintro n' d'⟨TZ,hq,MU,V5⟩;rw[<-hq];rw[<-MU]at h1;rw[<-V5]at h2;have uW:=zg (n:=n') TZ;have xc:=zj (n:=n') TZ;have Sg:d'.natAbs≠0:=by omega
 have O3:Nat.gcd n'.natAbs d'.natAbs≠0:=fun h=>Sg (Nat.eq_zero_of_gcd_eq_zero_right h);have R9:(aa (Nat.gcd n'.natAbs d'.natAbs)).length<=(aa d'.natAbs).length:=by
  rcases Nat.lt_or_ge (aa d'.natAbs).length (aa (Nat.gcd n'.natAbs d'.natAbs)).length with g|g
  ·have:=bz g;have:=Nat.le_of_dvd (by omega) (Nat.gcd_dvd_right n'.natAbs d'.natAbs);omega
  exact g
 have hp:=jz n'.natAbs (Nat.gcd n'.natAbs d'.natAbs);have hqq:=jz d'.natAbs (Nat.gcd n'.natAbs d'.natAbs);have YE:(aa (Rat.divInt n' d').num.natAbs).length<=(aa n'.natAbs).length:=by rw[uW,jw];exact hp
 have acp:(aa (Rat.divInt n' d').den).length<=(aa d'.natAbs).length:=by rw[xc];exact hqq
 have L9:=nw (Rat.divInt n' d').num YE;have Se:=GL (Rat.divInt n' d').den acp;have qN:=wN (q:=(Rat.divInt n' d').den);refine cg 5 [(8,.ints .i64 false (aa (Rat.divInt n' d').den)),(10,.s (bM (Rat.divInt n' d').num))] ((Rat.divInt n' d').den≠1) ?_ fun hc=>?_
 ·refine r0 rfl ?_;refine cl rfl rfl (tI n'.natAbs d'.natAbs (by omega) (by omega)) rfl ?_;refine r0 rfl ?_;refine cl rfl rfl (ku n'.natAbs (Nat.gcd n'.natAbs d'.natAbs) (by omega) (by omega) O3) rfl ?_;refine r0 rfl ?_;refine cl rfl rfl (ku d'.natAbs (Nat.gcd n'.natAbs d'.natAbs) (by omega) (by omega) O3) rfl ?_;refine r0 rfl ?_;refine cl rfl rfl (dE (decide (n'<0)) (n'.natAbs/Nat.gcd n'.natAbs d'.natAbs) (by omega)) rfl ?_;rw[<-uW,<-xc];refine r0 rfl ?_;refine cl rfl rfl (xM (Rat.divInt n' d').num (by omega)) rfl ?_;refine r0 rfl ?_;have xa:(Rat.divInt n' d').den=1->bM (Rat.divInt n' d').num=qt (Rat.divInt n' d'):=by
   intro h;unfold qt qJ dD;rw[if_pos h,List.append_nil]
  refine aB 44 rfl (fun h=>?_) (fun h=>?_)
  ·have ez:((0:Int).toNat)=0:=rfl;refine r1 rfl (by simp only[ae,and_true];omega) ?_;refine br rfl rfl rfl (fun h3=>?_) (fun h3=>?_)
   ·refine r0 rfl ?_;exact aF rfl (au.of_eq (congrArg SV.s (xa (qN.1 ⟨by omega,h3⟩))))
   refine r0 rfl ?_;exact aQ (fun h4=>h3 (qN.2 h4).2) ⟨⟨rfl,rfl⟩,⟨rfl,rfl⟩,trivial⟩
  refine r0 rfl ?_;exact aQ (fun h4=>h (by have:=(qN.2 h4).1;omega)) ⟨⟨rfl,rfl⟩,⟨rfl,rfl⟩,trivial⟩
 refine r1 rfl (by simp only[ae,and_true,len,List.length_cons,List.length_nil];omega) ?_;refine cl rfl rfl (dE false (Rat.divInt n' d').den (by omega)) rfl ?_;refine r0 rfl ?_;refine cl rfl rfl (xM (Rat.divInt n' d').den (by show(aa (Rat.divInt n' d').den).length<_;omega)) rfl ?_;rw[FH];refine r1 rfl (by simp only[ae,and_true,len,List.length_append,List.length_cons,List.length_nil];omega) ?_;refine aF rfl (au.of_eq (congrArg SV.s ?_));unfold qt qJ;rw[lv hc,List.append_assoc];rfl
theorem LR:bM 0=[48]:=by simp[bM,bc,bR];rfl
theorem CS(z:Int):qt (z:Rat)=bM z:=by simp[qt,qJ,dD]
theorem JA:qt 0=[48]:=by have:=CS 0;rw[LR]at this;simpa using this
theorem UW:qt 1=[49]:=by
 have:=CS 1;have e:bM 1=[49]:=by simp[bM,bc,bR];rfl
 rw[e]at this;simpa using this
theorem CT{q:Rat}:qt q=[48]↔q=0:=by rw[<-JA];exact NR
theorem FI(q:Rat):isNeg (qt q)=decide (q.num<0):=uT _ _
theorem HO(q:Rat):0<(qt q).length:=by have:=FG q.num;unfold qt;rw[lQ];omega
def Bw(s:bw):Int:=if s=[48]then 0 else if isNeg s then -1 else 1
theorem Nt(q:Rat):Bw (qt q)=q.num.sign:=by
 unfold Bw;rw[FI];by_cases h:q=0
 ·rw[if_pos (CT.2 h),h];rfl
 rw[if_neg (fun h'=>h (CT.1 h'))];have h0:q.num≠0:=fun h'=>h (Rat.num_eq_zero.1 h');by_cases hn:q.num<0
 ·simp[hn,Int.sign_eq_neg_one_of_neg hn]
 simp[hn,Int.sign_eq_one_of_pos (show 0<q.num by omega)]
theorem rH(s:bw)(hl:s.length<2^60):aO Tryz.prog 27 [.s s] (.i (Bw s)):=by
 refine enter (fn:=Tryz.f27) Tryz.func27 rfl rfl rfl rfl ?_;refine r0 rfl ?_;refine br rfl rfl rfl (fun h=>?_) (fun h=>?_)
 ·refine r0 rfl ?_;refine aF rfl (au.of_eq (congrArg SV.i ?_));unfold Bw;rw[if_pos h]
 refine r0 rfl ?_;have hs:Bw s=if isNeg s then -1 else 1:=by unfold Bw;rw[if_neg h]
 refine aB 8 rfl (fun h1=>?_) (fun h1=>?_)
 ·refine r1 rfl (by simp only[ae,and_true];omega) ?_;refine br rfl rfl rfl (fun h2=>?_) (fun h2=>?_)
  ·have hn:isNeg s=true:=by unfold isNeg;exact decide_eq_true ⟨by omega,by simpa using Int.ofNat.inj h2⟩
   refine r0 rfl ?_;refine aF rfl (au.of_eq (congrArg SV.i ?_));rw[hs,hn];rfl
  have hn:isNeg s=false:=by unfold isNeg;exact decide_eq_false fun hh=>h2 (by rw[show(s.getD (0:Int).toNat 0).toNat=45 from hh.2];rfl)
  refine r0 rfl ?_;refine aF rfl (au.of_eq (congrArg SV.i ?_));rw[hs,hn];rfl
 have hn:isNeg s=false:=by unfold isNeg;exact decide_eq_false fun hh=>by omega
 refine r0 rfl ?_;refine aF rfl (au.of_eq (congrArg SV.i ?_));rw[hs,hn];rfl
theorem NQ{q:Rat}(h:Hi q):(qt q).length<2^60:=Nat.lt_trans (yd h) (by decide)
theorem jW(q:Rat)(h:Hi q):aO Tryz.prog 27 [.s (qt q)] (.i q.num.sign):=by have:=rH (qt q) (NQ h);rwa[Nt]at this
theorem NP{q:Rat}(h:q.num<0):(qt q).drop 1=qt (-q):=by unfold qt qJ bM;rw[Rat.neg_num,Rat.neg_den,if_pos h,if_neg (by omega)];simp
theorem Ro{q:Rat}(h:0<q.num):45::qt q=qt (-q):=by unfold qt qJ bM;rw[Rat.neg_num,Rat.neg_den,if_neg (by omega),if_pos (by omega)];simp
theorem nn(q:Rat)(h:Hi q):aO Tryz.prog 211 [.s (qt q)] (.s (qt (-q))):=by
 have hl:=yd h;have hp:=HO q;refine enter (fn:=Tryz.f211) Tryz.func211 rfl rfl rfl rfl ?_;refine r0 rfl ?_;refine cl rfl rfl (jW q h) rfl ?_;refine r0 rfl ?_;refine br rfl rfl rfl (fun h1=>?_) (fun h1=>?_)
 ·have hn:q.num<0:=Int.sign_neg_iff.1 h1;refine r1 rfl (by simp only[ae,and_true,len];omega) ?_;refine aF rfl (au.of_eq (congrArg SV.s ?_));rw[<-NP hn,List.take_length];rfl
 have hn:¬q.num<0:=fun hn=>h1 (Int.sign_neg_iff.2 hn);refine r0 rfl ?_;refine cl rfl rfl (jW q h) rfl ?_;refine r0 rfl ?_;refine br rfl rfl rfl (fun h2=>?_) (fun h2=>?_)
 ·have h0:q=0:=Rat.num_eq_zero.1 (Int.sign_eq_zero_iff_zero.1 h2);refine r0 rfl ?_;refine aF rfl (au.of_eq (congrArg SV.s ?_));rw[h0];rfl
 have OZ:q.num≠0:=fun h3=>h2 (by rw[h3];rfl);refine r1 rfl (by simp only[ae,and_true,len,List.length_cons,List.length_nil];omega) ?_;refine aF rfl (au.of_eq (congrArg SV.s ?_));exact Ro (by omega)
def kL(q:Rat):Rat:=if q.num<0 then -q else q
theorem vK(q:Rat)(h:Hi q):aO Tryz.prog 44 [.s (qt q)] (.s (qt (kL q))):=by
 have hl:=yd h;have hp:=HO q;refine enter (fn:=Tryz.f44) Tryz.func44 rfl rfl rfl rfl ?_;refine r0 rfl ?_;refine cl rfl rfl (jW q h) rfl ?_;refine r0 rfl ?_;refine br rfl rfl rfl (fun h1=>?_) (fun h1=>?_)
 ·have hn:q.num<0:=Int.sign_neg_iff.1 h1;refine r1 rfl (by simp only[ae,and_true,len];omega) ?_;refine aF rfl (au.of_eq (congrArg SV.s ?_));unfold kL;rw[if_pos hn,<-NP hn,List.take_length];rfl
 have hn:¬q.num<0:=fun hn=>h1 (Int.sign_neg_iff.2 hn);refine r0 rfl ?_;refine aF rfl (au.of_eq (congrArg SV.s ?_));unfold kL;rw[if_neg hn]
theorem Dg(q:Rat):aO Tryz.prog 96 [.s (qt q)] (.u (decide (q=0))):=by refine enter (fn:=Tryz.f96) Tryz.func96 rfl rfl rfl rfl ?_;refine r0 rfl ?_;exact aF rfl (au.of_eq (congrArg SV.u (decide_eq_decide.2 CT)))
def Rp(q:Rat):Bool:=decide ((qt q).length<=20/\(decl q.num.natAbs 1).length<=9/\(dD q.den).length<=10)
theorem DT{n j:Nat}(h:(decl n 1).length<=j):n<10^j:=by have h1:=jK (bN n 1);rw[iM]at h1;exact Nat.lt_of_lt_of_le h1 (Nat.pow_le_pow_right (by decide) h)
theorem sP{q:Rat}(h:Rp q=true):q.num.natAbs<1000000000:=DT (j:=9) (of_decide_eq_true h).2.1
theorem qk{q:Rat}(h:Rp q=true):q.den<1000000000:=by
 have h1:=(of_decide_eq_true h).2.2;by_cases hd:q.den=1
 ·omega
 rw[lv hd]at h1;exact DT (j:=9) (by simpa using h1)
theorem D0(q:Rat):ba (qt q)=decl q.num.natAbs 1++dD q.den:=KE _ _
theorem K5(q:Rat):aj (ba (qt q))=(decl q.num.natAbs 1).length:=by rw[D0,mH _ (vI (bN _ _)),sF];omega
theorem mu(q:Rat)(h:Hi q):aO Tryz.prog 98 [.s (qt q)] (.bC [.i (if Rp q then q.num else 0),.i (if Rp q then(q.den:Int)else 0),.u (Rp q)]):=by
 have hl:=yd h;have hp:=HO q;have hb:=tS (qt q);have oX:=FI q;have yV:=K5 q;have F6:(ba (qt q)).length=(decl q.num.natAbs 1).length+(dD q.den).length:=by rw[D0];simp
 refine enter (fn:=Tryz.f98) Tryz.func98 rfl rfl rfl rfl ?_;refine cg 5 [(5,.s (ba (qt q))),(6,.u (decide (q.num<0)))] ((qt q).length<=20) ?_ fun hc=>?_
 ·refine r0 rfl ?_;refine br rfl rfl rfl (fun h1=>?_) (fun h1=>?_)
  ·have hq:Rp q=false:=decide_eq_false fun h2=>by omega
   rw[hq];refine r0 rfl ?_;exact aF rfl ⟨au.refl _,au.refl _,rfl,trivial⟩
  refine r0 rfl ?_;refine aB 17 rfl (fun h3=>?_) (fun h3=>absurd h3 (by omega));refine r1 rfl (by simp only[ae,and_true]<;>omega) ?_;refine br rfl rfl rfl (fun h2=>?_) (fun h2=>?_)
  ·have hn:isNeg (qt q)=true:=by unfold isNeg;exact decide_eq_true ⟨by omega,by simpa using Int.ofNat.inj h2⟩
   refine r1 rfl (by simp only[ae,and_true,len]<;>omega) ?_;refine aQ (by omega) ⟨⟨rfl,au.of_eq (congrArg SV.s (by simp[ba,hn]))⟩,⟨rfl,au.of_eq (congrArg SV.u ((decide_eq_true h2).trans (hn.symm.trans oX)))⟩,trivial⟩
  have hn:isNeg (qt q)=false:=by unfold isNeg;exact decide_eq_false fun hh=>h2 (by rw[show((qt q).getD (0:Int).toNat 0).toNat=45 from hh.2];rfl)
  refine r0 rfl ?_;refine aQ (by omega) ⟨⟨rfl,au.of_eq (congrArg SV.s (by simp[ba,hn]))⟩,⟨rfl,au.of_eq (congrArg SV.u ((decide_eq_false h2).trans (hn.symm.trans oX)))⟩,trivial⟩
 refine cg 2 [(6,.u (decide (q.num<0))),(5,.s (ba (qt q))),(7,.i (aj (ba (qt q))))] (Rp q=true) ?_ fun hq=>?_
 ·refine r0 rfl ?_;refine cl rfl rfl (mn (ba (qt q)) (by omega)) rfl ?_;refine r0 rfl ?_;refine aB 29 rfl (fun h1=>?_) (fun h1=>?_)
  ·have hq:Rp q=false:=decide_eq_false fun h2=>by omega
   rw[hq];refine r0 rfl ?_;exact aF rfl ⟨au.refl _,au.refl _,rfl,trivial⟩
  refine r1 rfl (by simp only[ae,and_true,len]<;>omega) ?_;refine br rfl rfl rfl (fun h2=>?_) (fun h2=>?_)
  ·have hq:Rp q=false:=decide_eq_false fun h2=>by omega
   rw[hq];refine r0 rfl ?_;exact aF rfl ⟨au.refl _,au.refl _,rfl,trivial⟩
  refine r0 rfl ?_;exact aQ (decide_eq_true ⟨hc,by omega,by omega⟩) ⟨⟨rfl,rfl⟩,⟨rfl,rfl⟩,⟨rfl,rfl⟩,trivial⟩
 have hqd:=of_decide_eq_true hq;have Im:=sP hq;have e1:((aj (ba (qt q)):Nat):Int).toNat=(decl q.num.natAbs 1).length:=by omega
 have e2:(((aj (ba (qt q)):Nat):Int)+1).toNat=(decl q.num.natAbs 1).length+1:=by omega
 have e3:(ba (qt q)).take (decl q.num.natAbs 1).length=decl q.num.natAbs 1:=by rw[D0];simp
 refine cg 2 [(6,.u (decide (q.num<0))),(8,.i q.num.natAbs),(9,.i q.den)] True ?_ fun _=>?_
 ·refine r1 rfl (by simp only[ae,and_true,len]<;>omega) ?_;refine cl rfl (by rw[e1,e3];rfl) (mh (decl q.num.natAbs 1) (bN _ _) (by omega)) rfl ?_;rw[iM];refine r0 rfl ?_;refine br rfl rfl rfl (fun h1=>?_) (fun h1=>?_)
  ·have hd:q.den≠1:=fun hd=>by have:=fK.2 hd;omega
   have e4:(ba (qt q)).drop ((decl q.num.natAbs 1).length+1)=decl q.den 1:=by rw[D0,lv hd,List.drop_append];simp
   have Se:(decl q.den 1).length<=9:=by have:=hqd.2.2;rw[lv hd]at this;simpa using this
   refine r1 rfl (by simp only[ae,and_true,len]<;>omega) ?_;refine cl rfl (by rw[e2,List.take_length,e4];rfl) (mh (decl q.den 1) (bN _ _) (by omega)) rfl ?_;rw[iM];refine r0 rfl ?_;exact aQ trivial ⟨⟨rfl,rfl⟩,⟨rfl,rfl⟩,⟨rfl,rfl⟩,trivial⟩
  have hd:q.den=1:=fK.1 (by omega);refine r0 rfl ?_;exact aQ trivial ⟨⟨rfl,rfl⟩,⟨rfl,rfl⟩,⟨rfl,au.of_eq (congrArg SV.i (by rw[hd];rfl))⟩,trivial⟩
 rw[hq];refine r0 rfl ?_;refine o5 rfl rfl rfl (fun h1=>?_) (fun h1=>?_)
 ·have h1:q.num<0:=of_decide_eq_true h1;refine r1 rfl (by simp only[ae,and_true]<;>omega) ?_;exact aF rfl ⟨au.of_eq (congrArg SV.i (by rw[if_pos rfl];omega)),au.refl _,rfl,trivial⟩
 have h1:¬q.num<0:=of_decide_eq_false h1;refine r0 rfl ?_;exact aF rfl ⟨au.of_eq (congrArg SV.i (by rw[if_pos rfl];omega)),au.refl _,rfl,trivial⟩
end Go.Ai
