/- Parts of the proof of ScaleNumbers (CheckBench, Exponent and Largest answer as the reference does), at every input, with no further conditions. -/
import Derived.Test.YtdgocdadfmhjgaaGreatDoorZAS
set_option linter.unusedVariables false
set_option linter.unusedSimpArgs false
namespace Go.Ai.Pg
open Go.Proofs Go.Ai Go.Ai.b6
set_option maxRecDepth 100000
set_option maxHeartbeats 0
theorem Pf:aO Tryz.prog 33 [] (.agg [.i 2,.row true 5 [.agg [.s [105,110,116,101,103,114,97,116,111,114],.row true 2 [.agg [.i 1,.s [49]],.agg [.i 0,.s [49]]],.i 1,.s [49],.nil]],.ints .i64 true [1]]):=fZ fA (B:=[]) (by kernel_rfl)
theorem Rd:aO Tryz.prog 37 [.ints .i64 false [9,7],.ints .i64 false [9,7]] (.b true):=fZ fA (B:=[]) (by kernel_rfl)
theorem Re:aO Tryz.prog 37 [.ints .i64 false [2,9],.ints .i64 false [2,9]] (.b true):=fZ fA (B:=[]) (by kernel_rfl)
theorem RE{o:Oper}{x y:Operand}{a b c:Int}{u:TypeId}(ho:o.op=.binOp .neq 53 x y u):kO Tryz.prog o [] [.agg [.i a,.i b,.i c],.agg [.i a,.i b,.i c]] [] (.b false):=by
 refine xD rfl rfl (by simp) ?_;intro w S vs hS hc ρ hρ;have u3:=Tryz.underlying3;have Xu:Tryz.prog.underlying 53=some (.struct (Tryz.prog.fieldsOf 53)):=by kernel_rfl
 have hp:Tryz.prog.stoodInHeld 53=false:=by kernel_rfl
 have hm:Tryz.prog.eqGuardType Tryz.prog.depth 53=false:=by kernel_rfl
 have hv:vs=[.agg #[.int .i64 a,.int .i64 b,.int .i64 c],.agg #[.int .i64 a,.int .i64 b,.int .i64 c]]:=by
  simp only[an,SV.den,Cells,Rel]at hc;obtain⟨v1,l1,F1,F2,rfl,-,-,mU,v2,l2,F3,F4,rfl,-,-,xA,rfl,-⟩:=hc;have key:∀(v:Value)(F:List Nat),(∃cs:Array Value,v=.agg cs/\Cells w S true [.v (.int .i64 a),.v (.int .i64 b),.v (.int .i64 c)] cs.toList F)->v=.agg #[.int .i64 a,.int .i64 b,.int .i64 c]:=by rintro v F⟨⟨cs⟩,rfl,h⟩;simp only[Cells,Rel]at h;obtain⟨y1,m1,G1,G2,e1,-,-,r1,y2,m2,G3,G4,e2,-,-,r2,y3,m3,G5,G6,e3,-,-,r3,e4,-⟩:=h;rw[r1.2.1,e2,r2.2.1,e3,r3.2.1,e4]at e1;rw[e1]
  rw[key v1 _ (by simp only[Cells,Rel];exact mU),key v2 _ (by simp only[Cells,Rel];exact xA)]
 have hx:ρ x=.agg #[.int .i64 a,.int .i64 b,.int .i64 c]/\ρ y=.agg #[.int .i64 a,.int .i64 b,.int .i64 c]:=by
  have:o.op.operands.toList=[x,y]:=by rw[ho];rfl
  rw[this,hv]at hρ;simp only[List.map_cons,List.map_nil,List.cons.injEq,and_true]at hρ;exact hρ
 have bp:(binOp .neq 53 (.agg #[.int .i64 a,.int .i64 b,.int .i64 c]) (.agg #[.int .i64 a,.int .i64 b,.int .i64 c])).run Tryz.prog w=.ok (.bool false) w:=by
  rw[run_neq_struct,show(10000:Nat)=9999+1 from rfl,run_equalIn_agg w 9999 53 _ _ Xu hp];simp only[Program.fieldsOf,Tryz.underlying53]
  go_simp
 refine⟨.value (.bool false),.bool false,w,?_,.inl rfl,S,[],⟨rfl,rfl,rfl,Nat.le_refl _,fun _ _=>rfl⟩,fun _ h=>h,fun _ h=>.inl h,fun b h=>hS b h,by simp[SV.den,Rel,scalar],List.nodup_nil,by simp⟩;simp[execOp,ho,hx,run_eqGuard_agg,hm,bp]
theorem Ta:aO Tryz.prog 9 [] (.b true):=by
 refine enter (fn:=Tryz.f9) Tryz.func9 rfl rfl rfl rfl ?_;refine r0 rfl ?_;refine cl rfl rfl Pf rfl ?_;refine r0 rfl ?_;refine cl rfl rfl (FC.same rfl rfl) rfl ?_;refine r0 rfl ?_;refine cl rfl rfl (Kq.same rfl rfl) rfl ?_;refine r0 rfl ?_;refine cl rfl rfl (P6.same rfl rfl) rfl ?_;refine r0 rfl ?_;refine cl rfl rfl (EZ.same rfl rfl) rfl ?_;refine r0 rfl ?_;refine cl rfl rfl (Ju.same rfl rfl) rfl ?_;refine r0 rfl ?_;refine cl rfl rfl (Gg.same rfl rfl) rfl ?_;refine r0 rfl ?_;refine cl rfl rfl (Pw.same rfl rfl) rfl ?_;refine r1 rfl (aI rfl) ?_;refine aB 87 rfl (fun g=>absurd g (by decide)) (fun _=>?_);refine r1 rfl (aI rfl) ?_;refine aB 91 rfl (fun g=>absurd g (by decide)) (fun _=>?_);refine r1 rfl (aI rfl) ?_;refine cl rfl rfl (Rd.same rfl rfl) rfl ?_;refine r1 rfl (aI rfl) ?_
 first
  |refine aB 102 rfl (fun g=>absurd g (by decide)) (fun _=>?_)
  |refine aB 97 rfl (fun g=>absurd g (by decide)) (fun _=>?_)
  |refine aB 110 rfl (fun g=>absurd g (by decide)) (fun _=>?_)
  |refine aB 115 rfl (fun g=>absurd g (by decide)) (fun _=>?_)
 refine r1 rfl (aI rfl) ?_;refine cl rfl rfl (Re.same rfl rfl) rfl ?_;refine r1 rfl (aI rfl) ?_
 first
  |refine aB 115 rfl (fun g=>absurd g (by decide)) (fun _=>?_)
  |refine aB 110 rfl (fun g=>absurd g (by decide)) (fun _=>?_)
 refine r1 rfl (aI rfl) ?_;refine ex rfl rfl rfl (kO.same (RE (a:=1) (b:=0) (c:=3) rfl) rfl rfl rfl rfl) rfl ?_;exact PE ZZ (B:=[]) (by kernel_rfl)
end Go.Ai.Pg
