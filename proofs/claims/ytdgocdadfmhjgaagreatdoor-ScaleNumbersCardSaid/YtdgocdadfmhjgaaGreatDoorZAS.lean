/- Parts of the proof of ScaleNumbers (CheckBench, Exponent and Largest answer as the reference does), at every input, with no further conditions. -/
import Derived.Test.YtdgocdadfmhjgaaGreatDoorZAR
set_option linter.unusedVariables false
set_option linter.unusedSimpArgs false
namespace Go.Ai.Pg
open Go.Proofs Go.Ai Go.Ai.b6
set_option maxRecDepth 100000
set_option maxHeartbeats 0
theorem EZ:aO Tryz.prog 34 [xN,xS] (.bC [.row true 1 [.strs true [[49,47,49,54],[49,47,52]]],.i 0]):=fZ Cw (B:=[]) (by kernel_rfl)
theorem Ju:aO Tryz.prog 35 [xN,xR,eK nA,xS] (.bC [.strs true [[49],[50]],.i 0]):=fZ Cw (B:=[]) (by kernel_rfl)
theorem Rb:aO Tryz.prog 21 [xN,xR,eK nA,xS] (.i 0):=fZ Cw (B:=[]) (by kernel_rfl)
theorem P6:aO Tryz.prog 20 [xN,xR,eK nA] (.bC [xS,.i 0]):=fZ Cw (B:=[]) (by kernel_rfl)
theorem WQ:aO Tryz.prog 20 [xN,xR,eK qQ] (.bC [.agg [.nil,.nil],.i 24]):=fZ Cw (B:=[]) (by kernel_rfl)
theorem Pw:aO Tryz.prog 24 [.s [57,47,49,48]] (.bC [.i (-1),.i 0]):=fZ Cw (B:=[]) (by kernel_rfl)
def Ss:SV:=.bC [.agg [.i 2,.row false 5 [.agg [.s di,.row false 2 [.agg [.i 1,.s uA],.agg [.i 0,.s Ny]],.i 1,.s [54,52],.nil]],.ints .i64 false [1]],.i 0]
def L2:List vN:=[oW 10 [xN,xR,eK nA] (.bC [.ints .i64 false [9,7],.row false 1 [.ints .i64 false [2,9]],.i 0]),oW 11 [xN,xR,eK nA] (.bC [cq1,.i 0]),oW 20 [xN,xR,eK nA] (.bC [xS,.i 0]),oW 20 [xN,xR,eK qQ] (.bC [.agg [.nil,.nil],.i 24]),
 oW 34 [xN,xS] (.bC [.row true 1 [.strs true [[49,47,49,54],[49,47,52]]],.i 0]),oW 35 [xN,xR,eK nA,xS] (.bC [.strs true [[49],[50]],.i 0]),oW 36 [xN,eK nA,xS] Ss,oW 24 [.s [57,47,49,48]] (.bC [.i (-1),.i 0]),
 oW 21 [xN,xR,eK nA,xS] (.i 0),oW 17 [xN,xR,eK qQ,.ints .i64 false [7,6]] (.i 0)]
def T2:nL:=yG L2
theorem Z3:Tl Tryz.prog L2:=⟨FC,Kq,P6,WQ,EZ,Ju,Gg,Pw,Rb,Ld,trivial⟩
theorem ZZ:∀g xs r,T2 g xs=some r->aO Tryz.prog g xs r:=fun _ _ _ h=>mB Z3 h
end Go.Ai.Pg
