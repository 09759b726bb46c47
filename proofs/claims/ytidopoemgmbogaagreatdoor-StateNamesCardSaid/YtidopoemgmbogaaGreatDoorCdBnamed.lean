/- A part of the proof of the card: which variables are named. -/
import Derived.Test.YtidopoemgmbogaaGreatDoorCdA
namespace Go.Proofs.YtidopoemgmbogaaGreatDoor
set_option maxRecDepth 100000
theorem j_named : (Rows.stateNamesRow.named == Tryz.prog.varsNamed 3) = true := by kernel_rfl
end Go.Proofs.YtidopoemgmbogaaGreatDoor
