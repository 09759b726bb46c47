/- Calls that are reckoned, each by the kernel. -/
import Derived.Test.YtidopoemgmbogaaGreatDoorEvB0
import Derived.Test.YtidopoemgmbogaaGreatDoorEvB1
import Derived.KernelRfl
namespace Go.Proofs.YtidopoemgmbogaaGreatDoor
open Go.Mt
set_option maxRecDepth 100000
theorem g18 : AllOk Tryz.prog Sp [m231] := by
  have o231 : MemoOk Tryz.prog Sp m231 := memoOk (M := []) trivial m231 1 (by kernel_rfl) (by kernel_rfl)
  exact ⟨o231, trivial⟩
end Go.Proofs.YtidopoemgmbogaaGreatDoor
