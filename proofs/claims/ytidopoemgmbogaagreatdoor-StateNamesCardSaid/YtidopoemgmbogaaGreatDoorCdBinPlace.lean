/- A part of the proof of the card: what stands in place. -/
import Derived.Test.YtidopoemgmbogaaGreatDoorCdA
namespace Go.Proofs.YtidopoemgmbogaaGreatDoor
set_option maxRecDepth 100000
theorem j_inPlace : (Rows.stateNamesRow.inPlace == Tryz.prog.inPlace 3) = true := by kernel_rfl
end Go.Proofs.YtidopoemgmbogaaGreatDoor
