/- Parts of the proof of ScaleSetups (as AIM.md's row tells), at every input, with no further conditions. -/
import Derived.Test.YtpoaaoihkhdijaaGreatDoorSZAP
import Derived.Test.YtpoaaoihkhdijaaGreatDoorSZAQ
import Derived.Test.YtpoaaoihkhdijaaGreatDoorSZAR
import Derived.Test.YtpoaaoihkhdijaaGreatDoorCards
import Derived.Test.YtpoaaoihkhdijaaGreatDoorTie
import Derived.ProofKit
import Derived.OpenShut
import Derived.Deep.DeepHandedRow
import Derived.Lib.SmallJoins
import Derived.Lay
import Derived.ChangeMaps5
set_option linter.all false
set_option maxRecDepth 100000
set_option maxHeartbeats 0
section
namespace Go.Ai.Pg
open Go Go.Ai Go.Ai.eE Go.RowKit
set_option maxRecDepth 100000
def aax(d:gV)(g:Zb d)(a:List fD)(n:fE)(m:Ag a)(k:∀s∈a,Ag s.lo/\Ag s.hi)(c:List Int)(b:List (List Int))(l:Ag c)(j:Ag b)(i:∀x∈b,Ag x){w:World}(q:Laid Go.Proofs.Tryz.prog w){f c1 c2:Array Value}
 (r0:Rel w (·<w.heap.size) (bh d).den (.agg f.toList.toArray) [])(r1:Rel w (·<w.heap.size) (Jq a n).den (.agg c1.toList.toArray) [])(p:Rel w (·<w.heap.size) (tS false c b).den (.agg c2.toList.toArray) []):
 Calls Go.Proofs.Tryz.prog 6 #[.agg f,.agg c1,.agg c2] w λe w'=>e=.returned (.bool true)/\Below w.heap.size w w':=by
 have hc:Cells w (·<w.heap.size) false (aB [bh d,Jq a n,tS false c b]) [.agg f,.agg c1,.agg c2] []:=by simp only[aB,Cells];exact⟨_,_,[],[],W,W,(λh=>by cases h),r0,_,_,[],[],W,W,(λh=>by cases h),r1,_,_,[],[],W,W,(λh=>by cases h),p,W,W⟩
 refine(Pc Go.Proofs.Tryz.func6 W W ((abJ U4 d g a n m k c b l j i) w (·<w.heap.size) [.agg f,.agg c1,.agg c2] q (λ_ h=>h) hc)).mono λe w'⟨v,t,u,F,r,_,_,_,o,_⟩=>?_;simp only[SV.den,Rel]at o;rw[t,o.2.1];exact⟨W,r⟩
end Go.Ai.Pg
namespace Go.Proofs.YtpoaaoihkhdijaaGreatDoor.ScaleSetupsProof
open Go Go.ChangeShapes Go.WideShapes Go.ChangeAt Go.RowKit Go.Ai
set_option maxRecDepth 100000
def wj{P:Program}{x:String×DataW Unit}{r:List (String×DataW Unit)}{w:World}(h:laidMet P (x::r) w):laidMet P r w:=by obtain⟨f,⟨g,t,m,c,p,q,l,k,j,i,e,rfl⟩,hn,hh⟩:=h;exact⟨q,e,(ac0.1 hn).2.1,λb a d=>hh b a<|by simp[d]⟩
def own:ownKnob Tryz.prog.godebug=none:=aW
def ZC:Tryz.prog.globalNamed "internal/strconv.uint64pow10"=some 5:=aW
def Rw:(Tryz.prog.globals[5]?).map (·.type)=some 429:=aW
def Xi:Tryz.prog.cellsOf 429=20:=aW
def Xj:Tryz.prog.cellsOf 311=1:=aW
def table{a:World}(h:laidMetH Tryz.prog Rows.scaleSetupsRow.laid a):Laid Tryz.prog a:=by have b:=h;exact Lib.tabIs_of_head (rest:=[("strconv.ErrRange",Rows.laid_strconv_ErrRange),("strconv.ErrSyntax",Rows.laid_strconv_ErrSyntax)]) ZC Rw Tryz.underlying429 Tryz.underlying311 Xj Xi<|wj<|wj b
def Ds{w w':World}{a:MemPlace->Prop}(h:Below w.heap.size w w'):w.keptBut w' a:=by
 refine⟨h.os,h.output,λi hi=>?_⟩;rw[h.block i hi];cases hh:w.heap[i]?with
 |none=>rfl
 |some o=>cases o<;>simp
def X4:Tryz.prog.readableRec 25=true:=aW
def b25:25<Tryz.prog.types.size:=of_decide_eq_true aW
def X3:Tryz.prog.readableRec 30=true:=aW
def b30:30<Tryz.prog.types.size:=of_decide_eq_true aW
def abe:Tryz.prog.readableRec 33=true:=aW
def b33:33<Tryz.prog.types.size:=of_decide_eq_true aW
def RY(H:Type)(enc:TypeId×Value->H)(a:World)(base:Nat)(args:Array Value)(w S:List (DataW H))(before:List MemPlace)
 (b:∀(j:Nat)t v,Tryz.f6.params[j]?=some t->args[j]?=some v->Value.okWide Tryz.prog a .any base t v)
 (hW:DataW.Whole enc Tryz.prog Tryz.f6.params.toList Rows.scaleSetupsSpec.vars false a args.toList w S before)(O:laidMetH Tryz.prog Rows.scaleSetupsRow.laid a):
 Calls Tryz.prog 6 args a λe x=>∃v,e=.returned v/\Rows.scaleSetupsSpec.post enc Tryz.prog Tryz.f6 false true false false a args v x:=by
 have s:=hW;obtain⟨p,q,u,N,rfl,M,L⟩:=hW;have hA:DataW.TrodAll enc Tryz.prog a 0 (λ_=>true) true Tryz.f6.params.toList args.toList w p:=u;rw[Tryz.params6]at hA b;obtain⟨A,z,y,d0,X,V,F,D,C,rfl,rfl,rfl,R,Q,P⟩:=trodAll_three hA;obtain⟨rfl,rfl⟩:=trodVars_none N;obtain⟨c0,rfl,-⟩:=okWide_struct Tryz.underlying25<|b 0 25 A W W;obtain⟨Z,rfl,-⟩:=okWide_struct Tryz.underlying30<|b 1 30 z W W;obtain⟨Y,rfl,-⟩:=okWide_struct Tryz.underlying33<|b 2 33 y W W;obtain⟨n0,k0⟩:=R;obtain⟨n1,k1⟩:=Q;obtain⟨K,k2⟩:=P;obtain⟨J,k,-,r0⟩:=o25 k0;obtain⟨⟨g,T⟩,⟨r,n⟩,-,r1⟩:=o30 k1;obtain⟨⟨f,i⟩,⟨o,m,l⟩,-,B⟩:=Go.Ai.Pg.o59 k2;have c:=Go.Ai.Pg.aax J k g T r n f i o m l (table O) (r0 _ λ_ h=>h) (r1 _ λ_ h=>h)<|B _ λ_ h=>h;refine c.mono λe x⟨he,d⟩=>?_;subst he;refine⟨_,W,_,_,_,[],F++D++C,[],s,?_,?_,?_,Ds d,λh=>by cases h⟩
 ·exact trodAll_mk1 (shut_bool Tryz.underlying4 true)
 ·rw[ada];exact trodAll_mk3 ⟨n0,zm gI.k1 X4 b25 d k0⟩ ⟨n1,zm gI.k1 X3 b30 d k1⟩ ⟨K,zm gI.k1 abe b33 d k2⟩
 rfl
def Mc:Array Value:=#[.agg #[.int .i64 0,.slice none 0 0,.slice none 0 0],.agg #[.slice none 0 0,.int .i64 0,.int .i64 0,.int .i64 0,.int .i64 0],.agg #[.slice none 0 0,.slice none 0 0]]
def Q6(os:Os):laidMet Tryz.prog Rows.scaleSetupsRow.laid ((World.laidAll Tryz.prog os Rows.scaleSetupsRow.laid).forCall (λ_ _=>0) ⟨#[],Mc,[]⟩).memory:=laidMet_laidAll _ aW aW
def reads(os:Os){H:Type}(enc:TypeId×Value->H):∃a,DataW.whole enc Tryz.prog ((World.laidAll Tryz.prog os Rows.scaleSetupsRow.laid).forCall (λ_ _=>0) ⟨#[],Mc,[]⟩).memory Tryz.f6.params.toList Rows.scaleSetupsSpec.vars false Mc.toList 8=some ([.agg [.lit<|.int .i64 0,.nil,.nil],.agg [.nil,.agg [.lit<|.int .i64 0,.lit<|.int .i64 0,.lit<|.int .i64 0,.lit<|.int .i64 0]],.agg [.nil,.nil]],[],a):=⟨[],aW⟩
def lifted(os:Os)(b:os.Started)(H:Type)(enc:TypeId×Value->H)(F:Stop.Interp):
 ReturnsInHanded {} Tryz.checked os 6 .any ((OpenSpec.ofChange Rows.scaleSetupsSpec).preRow enc Tryz.prog Tryz.f6 Rows.scaleSetupsRow.domain false Rows.scaleSetupsRow.laid) (((OpenSpec.ofChange Rows.scaleSetupsSpec).at F).post enc Tryz.prog Tryz.f6 false true false false):=by
 obtain⟨e,f⟩:=reads os enc;refine returnsInHanded_of_row (C:=Tryz.checked) (s:=OpenSpec.ofChange Rows.scaleSetupsSpec) own b aW Tryz.func6
  (witness_row_at (enc:=enc) (C:=Tryz.checked) false (World.laidAll Tryz.prog os Rows.scaleSetupsRow.laid) Mc (World.laidAll_os _ _ _) aW aW aW
    (OpenSpec.preRow_of_cond 8 f aW (λk g=>by cases g) aW<|Q6 os)) ?_
 intro a base d j i before c hW _ _ _ h _ _;exact RY H enc a base d j i before c hW h
def said:Rows.ScaleSetupsSaid:=
 OpenClaim.holds_of_cond 6 Tryz.f6 W W W W W W W ⟨W,W,W,W,W⟩ W W W W W gI.named Tryz.func6 gI.closed
  gI.inst gI.wrap
  (λos a H b _ F=>by rw[OpenClaim.pre_eq_preRow];exact lifted os a H b F)
end Go.Proofs.YtpoaaoihkhdijaaGreatDoor.ScaleSetupsProof
end
