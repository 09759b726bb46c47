/- Calls that are reckoned, each by the kernel. -/
import Derived.Test.YtidopoemgmbogaaGreatDoorEvB0
import Derived.Test.YtidopoemgmbogaaGreatDoorEvB1
import Derived.KernelRfl
namespace Go.Proofs.YtidopoemgmbogaaGreatDoor
open Go.Mt
set_option maxRecDepth 100000
theorem g19 : AllOk Tryz.prog Sp [m233] := by
  have o233 : MemoOk Tryz.prog Sp m233 := memoOk (M := []) trivial m233 1 (by kernel_rfl) (by kernel_rfl)
  exact ⟨o233, trivial⟩
end Go.Proofs.YtidopoemgmbogaaGreatDoor
