/- Calls that are reckoned, each by the kernel. -/
import Derived.Test.YtidopoemgmbogaaGreatDoorEvB0
import Derived.Test.YtidopoemgmbogaaGreatDoorEvB1
import Derived.KernelRfl
namespace Go.Proofs.YtidopoemgmbogaaGreatDoor
open Go.Mt
set_option maxRecDepth 100000
theorem g20 : AllOk Tryz.prog Sp [m297] := by
  have o297 : MemoOk Tryz.prog Sp m297 := memoOk (M := []) trivial m297 1 (by kernel_rfl) (by kernel_rfl)
  exact ⟨o297, trivial⟩
end Go.Proofs.YtidopoemgmbogaaGreatDoor
