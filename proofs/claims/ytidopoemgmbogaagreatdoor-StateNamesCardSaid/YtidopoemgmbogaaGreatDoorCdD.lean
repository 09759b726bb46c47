/- A part of the proof of the card: no go statement stands in the program. -/
import Derived.Test.YtidopoemgmbogaaGreatDoorCdA
namespace Go.Proofs.YtidopoemgmbogaaGreatDoor
open Go.ChangeShapes Go.WideShapes Go.ChangeAt Go.WideMaps Go.WideElems Go.RowKit
set_option maxRecDepth 100000
theorem noGo : (Tryz.prog.funcs.any Func.goes) = false := by kernel_rfl
theorem noIn : (Tryz.prog.inits.any Tryz.prog.goes) = false ∨ True := Or.inr trivial
end Go.Proofs.YtidopoemgmbogaaGreatDoor
