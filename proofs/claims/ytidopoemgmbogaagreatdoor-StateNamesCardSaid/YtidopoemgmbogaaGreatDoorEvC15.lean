/- Calls that are reckoned, each by the kernel. -/
import Derived.Test.YtidopoemgmbogaaGreatDoorEvB0
import Derived.Test.YtidopoemgmbogaaGreatDoorEvB1
import Derived.KernelRfl
namespace Go.Proofs.YtidopoemgmbogaaGreatDoor
open Go.Mt
set_option maxRecDepth 100000
theorem g22 : AllOk Tryz.prog Sp [m336] := by
  have o336 : MemoOk Tryz.prog Sp m336 := memoOk (M := []) trivial m336 1 (by kernel_rfl) (by kernel_rfl)
  exact ⟨o336, trivial⟩
end Go.Proofs.YtidopoemgmbogaaGreatDoor
