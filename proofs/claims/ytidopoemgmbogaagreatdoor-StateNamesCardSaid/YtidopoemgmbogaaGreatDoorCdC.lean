/- A part of the proof of the card: small facts of the row. -/
import Derived.Test.YtidopoemgmbogaaGreatDoorCdA
namespace Go.Proofs.YtidopoemgmbogaaGreatDoor
open Go.ChangeShapes Go.WideShapes Go.ChangeAt Go.WideMaps Go.WideElems Go.RowKit
set_option maxRecDepth 100000
theorem inst3 : f3.isInstance Tryz.prog Rows.stateNamesRow.origin Rows.stateNamesRow.targs := of_decide_eq_true (by kernel_rfl)
theorem wrap3 : f3.isWrapper Tryz.prog Rows.stateNamesRow.wrapper Rows.stateNamesRow.mainSum := by unfold Func.isWrapper; first | (rw [if_pos (by decide +kernel)]; kernel_rfl) | (rw [if_neg (by decide +kernel)]; exact ⟨rfl, rfl⟩)
theorem wf3 : Rows.stateNamesRow.wfByText (OpenSpec.ofChange Rows.stateNamesSpec) = true := by kernel_rfl
theorem main3 : Tryz.prog.mainIs = some (true, "ac3953fb9b545c49e9f0f6e70d0695b5f1edd34902579469c4fb59b4f99767d3".toList) := by kernel_rfl
theorem looks3 : true = Tryz.prog.looks [] := by kernel_rfl
end Go.Proofs.YtidopoemgmbogaaGreatDoor
