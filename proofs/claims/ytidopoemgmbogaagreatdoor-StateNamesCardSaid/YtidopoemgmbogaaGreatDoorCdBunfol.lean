/- A part of the proof of the card: what is not followed. -/
import Derived.Test.YtidopoemgmbogaaGreatDoorCdA
namespace Go.Proofs.YtidopoemgmbogaaGreatDoor
set_option maxRecDepth 100000
theorem j_unfol : (Rows.stateNamesRow.unfollowed == Tryz.prog.unfollowed 3) = true := by kernel_rfl
end Go.Proofs.YtidopoemgmbogaaGreatDoor
