/- Parts of the proof of ScaleKeeps (as AIM.md's row tells), at every input, with no further conditions. -/
import Derived.Test.YtpoaaoihkhdijaaGreatDoorKZAP
import Derived.Test.YtpoaaoihkhdijaaGreatDoorKZAQ
import Derived.Test.YtpoaaoihkhdijaaGreatDoorKZAR
import Derived.Test.YtpoaaoihkhdijaaGreatDoorCards
import Derived.Test.YtpoaaoihkhdijaaGreatDoorTie
import Derived.ProofKit
import Derived.OpenShut
import Derived.Deep.DeepHandedRow
import Derived.Lib.SmallJoins
import Derived.Lay
import Derived.ChangeMaps5
set_option linter.all false
set_option maxRecDepth 100000
set_option maxHeartbeats 0
section
namespace Go.Ai.Pg
open Go Go.Ai Go.Ai.eE Go.RowKit
set_option maxRecDepth 100000
def aax(c:gV)(f:Zb c)(a:List fD)(k:fE)(j:Ag a)(i:∀s∈a,Ag s.lo/\Ag s.hi)(b:Int)(g:0<=b/\b<65536){w:World}(m:Laid Go.Proofs.Tryz.prog w){d c1:Array Value}
 (r0:Rel w (·<w.heap.size) (bh c).den (.agg d.toList.toArray) [])(r1:Rel w (·<w.heap.size) (Jq a k).den (.agg c1.toList.toArray) []):
 Calls Go.Proofs.Tryz.prog 5 #[.agg d,.agg c1,.int .u16 b] w λe w'=>e=.returned (.bool true)/\Below w.heap.size w w':=by
 have hc:Cells w (·<w.heap.size) false (aB [bh c,Jq a k,.n .u16 b]) [.agg d,.agg c1,.int .u16 b] []:=by simp only[aB,Cells];exact⟨_,_,[],[],W,W,(λh=>by cases h),r0,_,_,[],[],W,W,(λh=>by cases h),r1,_,_,[],[],W,W,(λh=>by cases h),by simp[SV.den,Rel,scalar],W,W⟩
 refine(Pc Go.Proofs.Tryz.func5 W W ((abk U4 c f a k j i b g) w (·<w.heap.size) [.agg d,.agg c1,.int .u16 b] m (λ_ h=>h) hc)).mono λe w'⟨v,o,p,F,n,_,_,_,l,_⟩=>?_;simp only[SV.den,Rel]at l;rw[o,l.2.1];exact⟨W,n⟩
end Go.Ai.Pg
namespace Go.Proofs.YtpoaaoihkhdijaaGreatDoor.ScaleKeepsProof
open Go Go.ChangeShapes Go.WideShapes Go.ChangeAt Go.RowKit Go.Ai
set_option maxRecDepth 100000
def wj{P:Program}{x:String×DataW Unit}{r:List (String×DataW Unit)}{w:World}(h:laidMet P (x::r) w):laidMet P r w:=by obtain⟨f,⟨g,t,m,c,p,q,l,k,j,i,e,rfl⟩,hn,hh⟩:=h;exact⟨q,e,(abC.1 hn).2.1,λb a d=>hh b a<|by simp[d]⟩
def own:ownKnob Tryz.prog.godebug=none:=aW
def ZC:Tryz.prog.globalNamed "internal/strconv.uint64pow10"=some 5:=aW
def Rw:(Tryz.prog.globals[5]?).map (·.type)=some 429:=aW
def Xi:Tryz.prog.cellsOf 429=20:=aW
def Xj:Tryz.prog.cellsOf 311=1:=aW
def table{a:World}(h:laidMetH Tryz.prog Rows.scaleKeepsRow.laid a):Laid Tryz.prog a:=by have b:=h;exact Lib.tabIs_of_head (rest:=[("strconv.ErrRange",Rows.laid_strconv_ErrRange),("strconv.ErrSyntax",Rows.laid_strconv_ErrSyntax)]) ZC Rw Tryz.underlying429 Tryz.underlying311 Xj Xi<|wj<|wj b
def Ds{w w':World}{a:MemPlace->Prop}(h:Below w.heap.size w w'):w.keptBut w' a:=by
 refine⟨h.os,h.output,λi hi=>?_⟩;rw[h.block i hi];cases hh:w.heap[i]?with
 |none=>rfl
 |some o=>cases o<;>simp
def X4:Tryz.prog.readableRec 25=true:=aW
def b25:25<Tryz.prog.types.size:=of_decide_eq_true aW
def X3:Tryz.prog.readableRec 30=true:=aW
def b30:30<Tryz.prog.types.size:=of_decide_eq_true aW
def RY(H:Type)(enc:TypeId×Value->H)(a:World)(base:Nat)(args:Array Value)(s N:List (DataW H))(before:List MemPlace)
 (b:∀(j:Nat)t v,Tryz.f5.params[j]?=some t->args[j]?=some v->Value.okWide Tryz.prog a .any base t v)
 (hW:DataW.Whole enc Tryz.prog Tryz.f5.params.toList Rows.scaleKeepsSpec.vars false a args.toList s N before)(J:laidMetH Tryz.prog Rows.scaleKeepsRow.laid a):
 Calls Tryz.prog 5 args a λe u=>∃v,e=.returned v/\Rows.scaleKeepsSpec.post enc Tryz.prog Tryz.f5 false true false false a args v u:=by
 have o:=hW;obtain⟨p,q,r,F,rfl,D,C⟩:=hW;have hA:DataW.TrodAll enc Tryz.prog a 0 (λ_=>true) true Tryz.f5.params.toList args.toList s p:=r;rw[Tryz.params5]at hA b;obtain⟨y,x,w,d0,R,Q,A,z,P,rfl,rfl,rfl,M,L,K⟩:=trodAll_three hA;obtain⟨rfl,rfl⟩:=trodVars_none F;obtain⟨T,rfl,-⟩:=okWide_struct Tryz.underlying25<|b 0 25 y W W;obtain⟨S,rfl,-⟩:=okWide_struct Tryz.underlying30<|b 1 30 x W W;obtain⟨n0,k0⟩:=M;obtain⟨n1,k1⟩:=L;obtain⟨B,i,-,r0⟩:=o25 k0;obtain⟨⟨g,O⟩,⟨n,l⟩,-,r1⟩:=o30 k1;obtain⟨f,rfl,rfl,rfl,d⟩:=open_int Tryz.underlying61 (b 2 61 w W W) K;have k:0<=f/\f<65536:=by have h:=d;simp[Lit.wf,IntKind.min,IntKind.max,IntKind.signed,IntKind.bits]at h;omega
 have c:=Go.Ai.Pg.aax B i g O n l f k (table J) (r0 _ λ_ h=>h)<|r1 _ λ_ h=>h;refine c.mono λe u⟨he,m⟩=>?_;subst he;refine⟨_,W,_,_,_,[],A++z++[],[],o,?_,?_,?_,Ds m,λh=>by cases h⟩
 ·exact trodAll_mk1 (shut_bool Tryz.underlying4 true)
 ·rw[abG];exact trodAll_mk3 ⟨n0,zm ik.k1 X4 b25 m k0⟩ ⟨n1,zm ik.k1 X3 b30 m k1⟩<|shut_int Tryz.underlying61 d
 rfl
def Mc:Array Value:=#[.agg #[.int .i64 0,.slice none 0 0,.slice none 0 0],.agg #[.slice none 0 0,.int .i64 0,.int .i64 0,.int .i64 0,.int .i64 0],.int .u16 0]
def Q6(os:Os):laidMet Tryz.prog Rows.scaleKeepsRow.laid ((World.laidAll Tryz.prog os Rows.scaleKeepsRow.laid).forCall (λ_ _=>0) ⟨#[],Mc,[]⟩).memory:=laidMet_laidAll _ aW aW
def reads(os:Os){H:Type}(enc:TypeId×Value->H):∃a,DataW.whole enc Tryz.prog ((World.laidAll Tryz.prog os Rows.scaleKeepsRow.laid).forCall (λ_ _=>0) ⟨#[],Mc,[]⟩).memory Tryz.f5.params.toList Rows.scaleKeepsSpec.vars false Mc.toList 8=some ([.agg [.lit<|.int .i64 0,.nil,.nil],.agg [.nil,.agg [.lit<|.int .i64 0,.lit<|.int .i64 0,.lit<|.int .i64 0,.lit<|.int .i64 0]],.lit<|.int .u16 0],[],a):=⟨[],aW⟩
def lifted(os:Os)(b:os.Started)(H:Type)(enc:TypeId×Value->H)(F:Stop.Interp):
 ReturnsInHanded {} Tryz.checked os 5 .any ((OpenSpec.ofChange Rows.scaleKeepsSpec).preRow enc Tryz.prog Tryz.f5 Rows.scaleKeepsRow.domain false Rows.scaleKeepsRow.laid) (((OpenSpec.ofChange Rows.scaleKeepsSpec).at F).post enc Tryz.prog Tryz.f5 false true false false):=by
 obtain⟨e,f⟩:=reads os enc;refine returnsInHanded_of_row (C:=Tryz.checked) (s:=OpenSpec.ofChange Rows.scaleKeepsSpec) own b aW Tryz.func5
  (witness_row_at (enc:=enc) (C:=Tryz.checked) false (World.laidAll Tryz.prog os Rows.scaleKeepsRow.laid) Mc (World.laidAll_os _ _ _) aW aW aW
    (OpenSpec.preRow_of_cond 8 f aW (λk g=>by cases g) aW<|Q6 os)) ?_
 intro a base d j i before c hW _ _ _ h _ _;exact RY H enc a base d j i before c hW h
def said:Rows.ScaleKeepsSaid:=
 OpenClaim.holds_of_cond 5 Tryz.f5 W W W W W W W ⟨W,W,W,W,W⟩ W W W W W ik.named Tryz.func5 ik.closed
  ik.inst ik.wrap
  (λos a H b _ F=>by rw[OpenClaim.pre_eq_preRow];exact lifted os a H b F)
end Go.Proofs.YtpoaaoihkhdijaaGreatDoor.ScaleKeepsProof
end
