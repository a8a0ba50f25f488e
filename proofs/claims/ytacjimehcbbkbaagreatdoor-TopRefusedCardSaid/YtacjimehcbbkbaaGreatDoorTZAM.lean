/- TopRefused holds. -/
import Derived.Test.YtacjimehcbbkbaaGreatDoorTZAK
import Derived.Test.YtacjimehcbbkbaaGreatDoorTZAL
import Derived.Test.YtacjimehcbbkbaaGreatDoorCards
import Derived.LaidByTextLater
import Derived.SevenTiedAt
import Derived.LaidOnce
import Derived.ProofKit
import Derived.OpenShut
import Derived.Deep.DeepHandedRow
import Derived.Lib.SmallJoins
import Derived.Lay
import Derived.ChangeMaps5
set_option linter.all false
set_option maxRecDepth 100000
set_option maxHeartbeats 0
section
namespace Go.Ai.Pg
open Go Go.Ai Go.Ai.bI Go.RowKit Go.Proofs.Tryz
set_option maxRecDepth 100000
def Db(p0:fZ)(d:uC p0)(a:L fG)(b:Nat)(i:AN a)(g:∀s∈a,AN s.lo/\AN s.hi)(f:b<2^32)(j:iM){w:World}(m:Laid Go.Proofs.Tryz.prog w){c c1 c2:Array Value}
 (r0:Rel w (·<w.heap.size) (bV p0).den (.agg c.toList.toArray) [])(r1:Rel w (·<w.heap.size) (SV.agg [aj2 a,.n .u32 b]).den (.agg c1.toList.toArray) [])(l:Rel w (·<w.heap.size) (oc j).den (.agg c2.toList.toArray) []):
 Calls Go.Proofs.Tryz.prog 6 #[.agg c,.agg c1,.agg c2] w λe w'=>e=.returned (.bool true)/\Below w.heap.size w w':=by
 have hc:Cells w (·<w.heap.size) false (aE [bV p0,SV.agg [aj2 a,.n .u32 b],oc j]) [.agg c,.agg c1,.agg c2] []:=by simp only[aE,Cells];exact⟨_,_,[],[],W,W,(λh=>by cases h),r0,_,_,[],[],W,W,(λh=>by cases h),r1,_,_,[],[],W,W,(λh=>by cases h),l,W,W⟩
 refine(Uz Go.Proofs.Tryz.func6 W W ((Tk p0 d a b i g f j) w (·<w.heap.size) [.agg c,.agg c1,.agg c2] m (λ_ h=>h) hc)).mono λe w'⟨v,p,q,F,o,_,_,_,k,_⟩=>?_;simp only[SV.den,Rel]at k;rw[p,k.2.1];exact⟨W,o⟩
end Go.Ai.Pg
namespace Go.Proofs.YtacjimehcbbkbaaGreatDoor.TopRefusedProof
open Go Go.ChangeShapes Go.WideShapes Go.ChangeAt Go.RowKit Go.Ai Go.Proofs.Tryz
set_option maxRecDepth 100000
def zS{P:Program}{x:String×DataW Unit}{r:L (String×DataW Unit)}{w:World}(h:laidMet P (x::r) w):laidMet P r w:=by obtain⟨f,⟨g,t,m,c,p,q,l,k,j,i,e,rfl⟩,hn,hh⟩:=h;exact⟨q,e,(ad4.1 hn).2.1,λb a d=>hh b a<|by simp[d]⟩
def own:ownKnob prog.godebug=none:=aP
def agN:prog.globalNamed "internal/strconv.uint64pow10"=some 5:=aP
def Xh:(prog.globals[5]?).map (·.type)=some 436:=aP
def adE:prog.cellsOf 436=20:=aP
def adF:prog.cellsOf 337=1:=aP
def table{a:World}(h:laidMetH prog Rows.topRefusedRow.laid a):Laid prog a:=by have b:=h;exact Lib.tabIs_of_head (rest:=[("strconv.ErrRange",Rows.laid_strconv_ErrRange),("strconv.ErrSyntax",Rows.laid_strconv_ErrSyntax)]) agN Xh underlying436 underlying337 adF adE<|zS<|zS b
def GV{w w':World}{a:MemPlace->Prop}(h:Below w.heap.size w w'):w.keptBut w' a:=by
 refine⟨h.os,h.output,λi hi=>?_⟩;rw[h.block i hi];cases hh:w.heap[i]?with
 |none=>rfl
 |some o=>cases o<;>simp
def XP(H:Type)(enc:TypeId×Value->H)(a:World)(base:Nat)(args:Array Value)(r S:L (DataW H))(before:L MemPlace)
 (b:∀(j:Nat)t v,Tryz.f6.params[j]?=some t->args[j]?=some v->Value.okWide prog a .any base t v)
 (o:DataW.Whole enc prog Tryz.f6.params.toList Rows.topRefusedSpec.vars false a args.toList r S before)(N:laidMetH prog Rows.topRefusedRow.laid a):
 Calls prog 6 args a λe s=>∃v,e=.returned v/\Rows.topRefusedSpec.post enc prog Tryz.f6 false true false false a args v s:=by
 have m:=o;obtain⟨p,q,n,M,rfl,K,J⟩:=o;have hA:DataW.TrodAll enc prog a 0 (λ_=>true) true Tryz.f6.params.toList args.toList r p:=n;rw[Tryz.params6]at hA b;obtain⟨y,x,w,d0,X,V,C,B,A,rfl,rfl,rfl,R,P,O⟩:=trodAll_three hA;obtain⟨rfl,rfl⟩:=trodVars_none M;obtain⟨c0,rfl,-⟩:=okWide_struct underlying25<|b 0 25 y W W;obtain⟨Z,rfl,-⟩:=okWide_struct underlying85<|b 1 85 x W W;obtain⟨Y,rfl,-⟩:=okWide_struct underlying51<|b 2 51 w W W;obtain⟨n0,k0⟩:=R;obtain⟨n1,k1⟩:=P;obtain⟨F,k2⟩:=O;obtain⟨D,g,-,r0⟩:=o25 k0;obtain⟨⟨f,u⟩,⟨⟨l,k⟩,i⟩,-,r1⟩:=Go.Ai.Pg.o85 k1;obtain⟨T,-,-,z⟩:=o28 k2;have c:=Go.Ai.Pg.Db D g f u l k i T (table N) (r0 _ λ_ h=>h) (r1 _ λ_ h=>h)<|z _ λ_ h=>h;refine c.mono λe s⟨he,d⟩=>?_;subst he;refine⟨_,W,_,_,_,[],C++B++A,[],m,?_,?_,?_,GV d,λh=>by cases h⟩;exact trodAll_mk1<|shut_bool underlying4 true;rw[aen];exact trodAll_mk3 ⟨n0,uQ fh.k1 aP (of_decide_eq_true aP) d k0⟩ ⟨n1,uQ fh.k1 aP (of_decide_eq_true aP) d k1⟩ ⟨F,uQ fh.k1 aP (of_decide_eq_true aP) d k2⟩;rfl
def QJ:Array Value:=#[.agg #[.int .i64 0,.slice none 0 0,.slice none 0 0],.agg #[.slice none 0 0,.int .u32 0],.agg #[.int .i64 0,.int .i64 0,.int .i64 0,.int .i64 0]]
def WY(os:Os):laidMet prog Rows.topRefusedRow.laid ((World.laidAll prog os Rows.topRefusedRow.laid).forCall (λ_ _=>0) ⟨#[],QJ,[]⟩).memory:=laidMet_laidAll _ aP aP
def reads(os:Os){H:Type}(enc:TypeId×Value->H):∃a,DataW.whole enc prog ((World.laidAll prog os Rows.topRefusedRow.laid).forCall (λ_ _=>0) ⟨#[],QJ,[]⟩).memory Tryz.f6.params.toList Rows.topRefusedSpec.vars false QJ.toList 8=some ([.agg [.lit<|.int .i64 0,.nil,.nil],.agg [.nil,.lit<|.int .u32 0],.agg [.lit<|.int .i64 0,.lit<|.int .i64 0,.lit<|.int .i64 0,.lit<|.int .i64 0]],[],a):=⟨[],aP⟩
def lifted(os:Os)(b:os.Started)(H:Type)(enc:TypeId×Value->H)(F:Stop.Interp):
 ReturnsInHanded {} Tryz.checked os 6 .any ((OpenSpec.ofChange Rows.topRefusedSpec).preRow enc prog Tryz.f6 Rows.topRefusedRow.domain false Rows.topRefusedRow.laid) (((OpenSpec.ofChange Rows.topRefusedSpec).at F).post enc prog Tryz.f6 false true false false):=by
 obtain⟨e,f⟩:=reads os enc;refine returnsInHanded_of_row (C:=Tryz.checked) (s:=OpenSpec.ofChange Rows.topRefusedSpec) own b aP func6
  (witness_row_at (enc:=enc) (C:=Tryz.checked) false (World.laidAll prog os Rows.topRefusedRow.laid) QJ (World.laidAll_os _ _ _) aP aP aP
    (OpenSpec.preRow_of_cond 8 f aP (λk g=>by cases g) aP<|WY os)) ?_
 intro a base d l j before c h _ _ _ i _ _;exact XP H enc a base d l j before c h i
def said:Rows.TopRefusedSaid:=
 OpenClaim.holds_of_cond 6 Tryz.f6 W W W W W W W ⟨W,W,W,W,W⟩ W W W W W fh.named func6 fh.closed
  fh.inst fh.wrap
  (λos a H b _ F=>by rw[OpenClaim.pre_eq_preRow];exact lifted os a H b F)
end Go.Proofs.YtacjimehcbbkbaaGreatDoor.TopRefusedProof
end
