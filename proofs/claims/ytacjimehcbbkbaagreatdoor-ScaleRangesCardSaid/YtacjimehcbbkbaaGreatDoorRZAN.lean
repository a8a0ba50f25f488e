/- ScaleRanges holds of the program, under no condition. -/
import Derived.Test.YtacjimehcbbkbaaGreatDoorRZAL
import Derived.Test.YtacjimehcbbkbaaGreatDoorRZAM
import Derived.Test.YtacjimehcbbkbaaGreatDoorCards
import Derived.Test.YtacjimehcbbkbaaGreatDoorTie
import Derived.ProofKit
import Derived.OpenShut
import Derived.Deep.DeepHandedRow
import Derived.Lib.SmallJoins
import Derived.Lay
import Derived.ChangeMaps5
set_option linter.all false
set_option maxRecDepth 100000
set_option maxHeartbeats 0
section
namespace Go.Ai.Pg
open Go Go.Ai Go.Ai.bG Go.RowKit Go.Proofs.Tryz
set_option maxRecDepth 100000
def zH(b:jZ)(d:PSz b)(a:L jh)(g:FD a)(f:∀s∈a,FD s.lo/\FD s.hi){w:World}(j:Laid Go.Proofs.Tryz.prog w){c:Array Value}{v1:Value}
 (r0:Rel w (·<w.heap.size) (bI b).den (.agg c.toList.toArray) [])(r1:Rel w (·<w.heap.size) (aib a).den v1 []):
 Calls Go.Proofs.Tryz.prog 3 #[.agg c,v1] w λe w'=>e=.returned (.bool true)/\Below w.heap.size w w':=by
 have hc:Cells w (·<w.heap.size) false (aB [bI b,aib a]) [.agg c,v1] []:=by simp only[aB,Cells];exact⟨_,_,[],[],W,W,(λh=>by cases h),r0,_,_,[],[],W,W,(λh=>by cases h),r1,W,W⟩
 refine(Tu Go.Proofs.Tryz.func3 W W ((Oo ZZ b d a g f) w (·<w.heap.size) [.agg c,v1] j (λ_ h=>h) hc)).mono λe w'⟨v,l,m,F,k,_,_,_,i,_⟩=>?_;simp only[SV.den,Rel]at i;rw[l,i.2.1];exact⟨W,k⟩
end Go.Ai.Pg
namespace Go.Proofs.YtacjimehcbbkbaaGreatDoor.ScaleRangesProof
open Go Go.ChangeShapes Go.WideShapes Go.ChangeAt Go.RowKit Go.Ai Go.Proofs.Tryz
set_option maxRecDepth 100000
def yl{P:Program}{x:String×DataW Unit}{r:L (String×DataW Unit)}{w:World}(h:laidMet P (x::r) w):laidMet P r w:=by obtain⟨f,⟨g,t,m,c,p,q,l,k,j,i,e,rfl⟩,hn,hh⟩:=h;exact⟨q,e,(acH.1 hn).2.1,λb a d=>hh b a<|by simp[d]⟩
def own:ownKnob prog.godebug=none:=aP
def afa:prog.globalNamed "internal/strconv.uint64pow10"=some 5:=aP
def Wa:(prog.globals[5]?).map (·.type)=some 436:=aP
def acj:prog.cellsOf 436=20:=aP
def ack:prog.cellsOf 337=1:=aP
def table{a:World}(h:laidMetH prog Rows.scaleRangesRow.laid a):Laid prog a:=by have b:=h;exact Lib.tabIs_of_head (rest:=[("strconv.ErrRange",Rows.laid_strconv_ErrRange),("strconv.ErrSyntax",Rows.laid_strconv_ErrSyntax)]) afa Wa underlying436 underlying337 ack acj<|yl<|yl b
def FZ{w w':World}{a:MemPlace->Prop}(h:Below w.heap.size w w'):w.keptBut w' a:=by
 refine⟨h.os,h.output,λi hi=>?_⟩;rw[h.block i hi];cases hh:w.heap[i]?with
 |none=>rfl
 |some o=>cases o<;>simp
def adm:prog.readableRec 25=true:=aP
def b25:25<prog.types.size:=of_decide_eq_true aP
def adl:prog.readableRec 26=true:=aP
def b26:26<prog.types.size:=of_decide_eq_true aP
def WK(H:Type)(enc:TypeId×Value->H)(a:World)(base:Nat)(args:Array Value)(w O:L (DataW H))(before:L MemPlace)
 (b:∀(j:Nat)t v,Tryz.f3.params[j]?=some t->args[j]?=some v->Value.okWide prog a .any base t v)
 (hW:DataW.Whole enc prog Tryz.f3.params.toList Rows.scaleRangesSpec.vars false a args.toList w O before)(K:laidMetH prog Rows.scaleRangesRow.laid a):
 Calls prog 3 args a λe x=>∃v,e=.returned v/\Rows.scaleRangesSpec.post enc prog Tryz.f3 false true false false a args v x:=by
 have r:=hW;obtain⟨p,q,s,J,rfl,F,D⟩:=hW;have hA:DataW.TrodAll enc prog a 0 (λ_=>true) true Tryz.f3.params.toList args.toList w p:=s;rw[Tryz.params3]at hA b;obtain⟨z,y,d0,P,B,A,rfl,rfl,rfl,N,M⟩:=trodAll_two hA;obtain⟨rfl,rfl⟩:=trodVars_none J;obtain⟨R,rfl,-⟩:=okWide_struct underlying25<|b 0 25 z W W;obtain⟨n0,k0⟩:=N;obtain⟨n1,k1⟩:=M;obtain⟨C,l,-,r0⟩:=o25 k0;obtain⟨i,d,g,rfl⟩:=okWide_slice underlying26<|b 1 26 y W W;obtain⟨k,u,⟨o,m⟩,f,-,r1⟩:=o26 k1;obtain rfl:Value.slice i d g=u:=(List.cons.inj<|show[Value.slice i d g]=[u]from f).1;have c:=Go.Ai.Pg.zH C l k o m (table K) (r0 _ λ_ h=>h)<|r1 _ λ_ h=>h;refine c.mono λe x⟨he,n⟩=>?_;subst he;refine⟨_,W,_,_,_,[],B++A,[],r,?_,?_,?_,FZ n,λh=>by cases h⟩;exact trodAll_mk1<|shut_bool underlying4 true;exact trodAll_mk2 ⟨n0,Bj eR.k1 adm b25 n k0⟩ ⟨n1,Bj eR.k1 adl b26 n k1⟩;rfl
def P2:Array Value:=#[.agg #[.int .i64 0,.slice none 0 0,.slice none 0 0],.slice none 0 0]
def VJ(os:Os):laidMet prog Rows.scaleRangesRow.laid ((World.laidAll prog os Rows.scaleRangesRow.laid).forCall (λ_ _=>0) ⟨#[],P2,[]⟩).memory:=laidMet_laidAll _ aP aP
def reads(os:Os){H:Type}(enc:TypeId×Value->H):∃a,DataW.whole enc prog ((World.laidAll prog os Rows.scaleRangesRow.laid).forCall (λ_ _=>0) ⟨#[],P2,[]⟩).memory Tryz.f3.params.toList Rows.scaleRangesSpec.vars false P2.toList 8=some ([.agg [.lit<|.int .i64 0,.nil,.nil],.nil],[],a):=⟨[],aP⟩
def lifted(os:Os)(b:os.Started)(H:Type)(enc:TypeId×Value->H)(F:Stop.Interp):
 ReturnsInHanded {} Tryz.checked os 3 .any ((OpenSpec.ofChange Rows.scaleRangesSpec).preRow enc prog Tryz.f3 Rows.scaleRangesRow.domain false Rows.scaleRangesRow.laid) (((OpenSpec.ofChange Rows.scaleRangesSpec).at F).post enc prog Tryz.f3 false true false false):=by
 obtain⟨e,f⟩:=reads os enc;refine returnsInHanded_of_row (C:=Tryz.checked) (s:=OpenSpec.ofChange Rows.scaleRangesSpec) own b aP func3
  (witness_row_at (enc:=enc) (C:=Tryz.checked) false (World.laidAll prog os Rows.scaleRangesRow.laid) P2 (World.laidAll_os _ _ _) aP aP aP
    (OpenSpec.preRow_of_cond 8 f aP (λk g=>by cases g) aP<|VJ os)) ?_
 intro a base d j i before c hW _ _ _ h _ _;exact WK H enc a base d j i before c hW h
def said:Rows.ScaleRangesSaid:=
 OpenClaim.holds_of_cond 3 Tryz.f3 W W W W W W W ⟨W,W,W,W,W⟩ W W W W W eR.named func3 eR.closed
  eR.inst eR.wrap
  (λos a H b _ F=>by rw[OpenClaim.pre_eq_preRow];exact lifted os a H b F)
end Go.Proofs.YtacjimehcbbkbaaGreatDoor.ScaleRangesProof
end
