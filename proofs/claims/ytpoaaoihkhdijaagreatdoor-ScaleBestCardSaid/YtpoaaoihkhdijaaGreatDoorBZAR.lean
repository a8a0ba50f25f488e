/- Parts of the proof of ScaleBest (Best returns the greatest set-up, and Refuse a circle that the reference accepts, if there is none; or the errors of the reference), at every input, with no further conditions. -/
import Derived.Test.YtpoaaoihkhdijaaGreatDoorBZAP
import Derived.Test.YtpoaaoihkhdijaaGreatDoorBZAQ
import Derived.Test.YtpoaaoihkhdijaaGreatDoorCards
import Derived.Test.YtpoaaoihkhdijaaGreatDoorTie
import Derived.ProofKit
import Derived.OpenShut
import Derived.Deep.DeepHandedRow
import Derived.Lib.SmallJoins
import Derived.Lay
import Derived.ChangeMaps5
set_option linter.all false
set_option maxRecDepth 100000
set_option maxHeartbeats 0
section
namespace Go.Ai.Pg
open Go Go.Ai Go.Ai.eE Go.RowKit
set_option maxRecDepth 100000
def C6(b:gV)(d:Zb b)(a:List fD)(i:fE)(g:Ag a)(f:∀s∈a,Ag s.lo/\Ag s.hi){w:World}(k:Laid Go.Proofs.Tryz.prog w){c c1:Array Value}
 (r0:Rel w (·<w.heap.size) (bh b).den (.agg c.toList.toArray) [])(r1:Rel w (·<w.heap.size) (Jq a i).den (.agg c1.toList.toArray) []):
 Calls Go.Proofs.Tryz.prog 4 #[.agg c,.agg c1] w λe w'=>e=.returned (.bool true)/\Below w.heap.size w w':=by
 have hc:Cells w (·<w.heap.size) false (aB [bh b,Jq a i]) [.agg c,.agg c1] []:=by simp only[aB,Cells];exact⟨_,_,[],[],W,W,(λh=>by cases h),r0,_,_,[],[],W,W,(λh=>by cases h),r1,W,W⟩
 refine(Pc Go.Proofs.Tryz.func4 W W ((Sg U4 b d a i g f) w (·<w.heap.size) [.agg c,.agg c1] k (λ_ h=>h) hc)).mono λe w'⟨v,m,n,F,l,_,_,_,j,_⟩=>?_;simp only[SV.den,Rel]at j;rw[m,j.2.1];exact⟨W,l⟩
end Go.Ai.Pg
namespace Go.Proofs.YtpoaaoihkhdijaaGreatDoor.ScaleBestProof
open Go Go.ChangeShapes Go.WideShapes Go.ChangeAt Go.RowKit Go.Ai
set_option maxRecDepth 100000
def wj{P:Program}{x:String×DataW Unit}{r:List (String×DataW Unit)}{w:World}(h:laidMet P (x::r) w):laidMet P r w:=by obtain⟨f,⟨g,t,m,c,p,q,l,k,j,i,e,rfl⟩,hn,hh⟩:=h;exact⟨q,e,(abm.1 hn).2.1,λb a d=>hh b a<|by simp[d]⟩
def own:ownKnob Tryz.prog.godebug=none:=aW
def ZC:Tryz.prog.globalNamed "internal/strconv.uint64pow10"=some 5:=aW
def Rw:(Tryz.prog.globals[5]?).map (·.type)=some 429:=aW
def Xi:Tryz.prog.cellsOf 429=20:=aW
def Xj:Tryz.prog.cellsOf 311=1:=aW
def table{a:World}(h:laidMetH Tryz.prog Rows.scaleBestRow.laid a):Laid Tryz.prog a:=by have b:=h;exact Lib.tabIs_of_head (rest:=[("strconv.ErrRange",Rows.laid_strconv_ErrRange),("strconv.ErrSyntax",Rows.laid_strconv_ErrSyntax)]) ZC Rw Tryz.underlying429 Tryz.underlying311 Xj Xi<|wj<|wj b
def Ds{w w':World}{a:MemPlace->Prop}(h:Below w.heap.size w w'):w.keptBut w' a:=by
 refine⟨h.os,h.output,λi hi=>?_⟩;rw[h.block i hi];cases hh:w.heap[i]?with
 |none=>rfl
 |some o=>cases o<;>simp
def X4:Tryz.prog.readableRec 25=true:=aW
def b25:25<Tryz.prog.types.size:=of_decide_eq_true aW
def X3:Tryz.prog.readableRec 30=true:=aW
def b30:30<Tryz.prog.types.size:=of_decide_eq_true aW
def RY(H:Type)(enc:TypeId×Value->H)(a:World)(base:Nat)(args:Array Value)(n F:List (DataW H))(before:List MemPlace)
 (b:∀(j:Nat)t v,Tryz.f4.params[j]?=some t->args[j]?=some v->Value.okWide Tryz.prog a .any base t v)
 (hW:DataW.Whole enc Tryz.prog Tryz.f4.params.toList Rows.scaleBestSpec.vars false a args.toList n F before)(B:laidMetH Tryz.prog Rows.scaleBestRow.laid a):
 Calls Tryz.prog 4 args a λe o=>∃v,e=.returned v/\Rows.scaleBestSpec.post enc Tryz.prog Tryz.f4 false true false false a args v o:=by
 have l:=hW;obtain⟨p,q,m,A,rfl,z,y⟩:=hW;have hA:DataW.TrodAll enc Tryz.prog a 0 (λ_=>true) true Tryz.f4.params.toList args.toList n p:=m;rw[Tryz.params4]at hA b;obtain⟨s,r,d0,K,w,u,rfl,rfl,rfl,D,C⟩:=trodAll_two hA;obtain⟨rfl,rfl⟩:=trodVars_none A;obtain⟨M,rfl,-⟩:=okWide_struct Tryz.underlying25<|b 0 25 s W W;obtain⟨L,rfl,-⟩:=okWide_struct Tryz.underlying30<|b 1 30 r W W;obtain⟨n0,k0⟩:=D;obtain⟨n1,k1⟩:=C;obtain⟨x,f,-,r0⟩:=o25 k0;obtain⟨⟨d,J⟩,⟨k,g⟩,-,r1⟩:=sj k1;have c:=Go.Ai.Pg.C6 x f d J k g (table B) (r0 _ λ_ h=>h)<|r1 _ λ_ h=>h;refine c.mono λe o⟨he,i⟩=>?_;subst he;refine⟨_,W,_,_,_,[],w++u,[],l,?_,?_,?_,Ds i,λh=>by cases h⟩
 ·exact trodAll_mk1 (shut_bool Tryz.underlying4 true)
 ·exact trodAll_mk2 ⟨n0,zm fO.k1 X4 b25 i k0⟩ ⟨n1,zm fO.k1 X3 b30 i k1⟩
 rfl
def Mc:Array Value:=#[.agg #[.int .i64 0,.slice none 0 0,.slice none 0 0],.agg #[.slice none 0 0,.int .i64 0,.int .i64 0,.int .i64 0,.int .i64 0]]
def Q6(os:Os):laidMet Tryz.prog Rows.scaleBestRow.laid ((World.laidAll Tryz.prog os Rows.scaleBestRow.laid).forCall (λ_ _=>0) ⟨#[],Mc,[]⟩).memory:=laidMet_laidAll _ aW aW
def reads(os:Os){H:Type}(enc:TypeId×Value->H):∃a,DataW.whole enc Tryz.prog ((World.laidAll Tryz.prog os Rows.scaleBestRow.laid).forCall (λ_ _=>0) ⟨#[],Mc,[]⟩).memory Tryz.f4.params.toList Rows.scaleBestSpec.vars false Mc.toList 8=some ([.agg [.lit<|.int .i64 0,.nil,.nil],.agg [.nil,.agg [.lit<|.int .i64 0,.lit<|.int .i64 0,.lit<|.int .i64 0,.lit<|.int .i64 0]]],[],a):=⟨[],aW⟩
def lifted(os:Os)(b:os.Started)(H:Type)(enc:TypeId×Value->H)(F:Stop.Interp):
 ReturnsInHanded {} Tryz.checked os 4 .any ((OpenSpec.ofChange Rows.scaleBestSpec).preRow enc Tryz.prog Tryz.f4 Rows.scaleBestRow.domain false Rows.scaleBestRow.laid) (((OpenSpec.ofChange Rows.scaleBestSpec).at F).post enc Tryz.prog Tryz.f4 false true false false):=by
 obtain⟨e,f⟩:=reads os enc;refine returnsInHanded_of_row (C:=Tryz.checked) (s:=OpenSpec.ofChange Rows.scaleBestSpec) own b aW Tryz.func4
  (witness_row_at (enc:=enc) (C:=Tryz.checked) false (World.laidAll Tryz.prog os Rows.scaleBestRow.laid) Mc (World.laidAll_os _ _ _) aW aW aW
    (OpenSpec.preRow_of_cond 8 f aW (λk g=>by cases g) aW<|Q6 os)) ?_
 intro a base d j i before c hW _ _ _ h _ _;exact RY H enc a base d j i before c hW h
def said:Rows.ScaleBestSaid:=
 OpenClaim.holds_of_cond 4 Tryz.f4 W W W W W W W ⟨W,W,W,W,W⟩ W W W W W fO.named Tryz.func4 fO.closed
  fO.inst fO.wrap
  (λos a H b _ F=>by rw[OpenClaim.pre_eq_preRow];exact lifted os a H b F)
end Go.Proofs.YtpoaaoihkhdijaaGreatDoor.ScaleBestProof
end
