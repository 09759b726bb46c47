/- A part of the proof of the card: the closed facts of the row. -/
import Derived.Test.YtidopoemgmbogaaGreatDoorCdA
import Derived.Test.YtidopoemgmbogaaGreatDoorCdBinPlace
import Derived.Test.YtidopoemgmbogaaGreatDoorCdBunfol
import Derived.Test.YtidopoemgmbogaaGreatDoorCdBrec
import Derived.Test.YtidopoemgmbogaaGreatDoorCdBnamed
namespace Go.Proofs.YtidopoemgmbogaaGreatDoor
open Go.ChangeShapes Go.WideShapes Go.ChangeAt Go.WideMaps Go.WideElems Go.RowKit
set_option maxRecDepth 100000
theorem closed3 : joinedFacts Tryz.prog 3 f3 Rows.stateNamesSpec Rows.stateNamesRow = true := by
  unfold joinedFacts
  rw [j_inPlace, j_unfol, j_rec, j_named]
  kernel_rfl
end Go.Proofs.YtidopoemgmbogaaGreatDoor
