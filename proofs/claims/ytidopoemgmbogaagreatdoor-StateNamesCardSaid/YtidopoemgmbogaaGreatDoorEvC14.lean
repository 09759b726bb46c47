/- Calls that are reckoned, each by the kernel. -/
import Derived.Test.YtidopoemgmbogaaGreatDoorEvB0
import Derived.Test.YtidopoemgmbogaaGreatDoorEvB1
import Derived.KernelRfl
namespace Go.Proofs.YtidopoemgmbogaaGreatDoor
open Go.Mt
set_option maxRecDepth 100000
theorem g21 : AllOk Tryz.prog Sp [m299] := by
  have o299 : MemoOk Tryz.prog Sp m299 := memoOk (M := []) trivial m299 1 (by kernel_rfl) (by kernel_rfl)
  exact ⟨o299, trivial⟩
end Go.Proofs.YtidopoemgmbogaaGreatDoor
