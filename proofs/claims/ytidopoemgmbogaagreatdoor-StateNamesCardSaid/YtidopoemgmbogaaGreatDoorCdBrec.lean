/- A part of the proof of the card: whether it recurses. -/
import Derived.Test.YtidopoemgmbogaaGreatDoorCdA
namespace Go.Proofs.YtidopoemgmbogaaGreatDoor
set_option maxRecDepth 100000
theorem j_rec : (Rows.stateNamesRow.recurses == Tryz.prog.recurses 3) = true := by kernel_rfl
end Go.Proofs.YtidopoemgmbogaaGreatDoor
