/- A part of the proof of the card: the function, and what its head says. -/
import Derived.Test.YtidopoemgmbogaaGreatDoorTie
import Derived.ProofKit
import Derived.LaidMore
import Derived.OpenShut
import Derived.Stop.Joined
import Derived.JoinedOf
namespace Go.Proofs.YtidopoemgmbogaaGreatDoor
open Go.ChangeShapes Go.WideShapes Go.ChangeAt Go.WideMaps Go.WideElems Go.RowKit
set_option maxRecDepth 100000
noncomputable def f3 : Func := (Tryz.prog.funcs[3]?).getD default
theorem func3 : Tryz.prog.funcs[3]? = some f3 := by kernel_rfl
theorem own : ownKnob Tryz.prog.godebug = none := by kernel_rfl
theorem params3 : f3.params = #[] := by kernel_rfl
theorem noInit : Tryz.prog.inits.idxOf? 3 = none := by kernel_rfl
theorem fname : Tryz.prog.funcNamed "marshes/marsheslaw26.StateNames" = some 3 := by kernel_rfl
end Go.Proofs.YtidopoemgmbogaaGreatDoor
