/- Calls that are reckoned, each by the kernel. -/
import Derived.Test.YtidopoemgmbogaaGreatDoorEvB0
import Derived.Test.YtidopoemgmbogaaGreatDoorEvB1
import Derived.KernelRfl
namespace Go.Proofs.YtidopoemgmbogaaGreatDoor
open Go.Mt
set_option maxRecDepth 100000
theorem g8 : AllOk Tryz.prog Sp [m59] := by
  have o59 : MemoOk Tryz.prog Sp m59 := memoOk (M := []) trivial m59 1 (by kernel_rfl) (by kernel_rfl)
  exact ⟨o59, trivial⟩
end Go.Proofs.YtidopoemgmbogaaGreatDoor
