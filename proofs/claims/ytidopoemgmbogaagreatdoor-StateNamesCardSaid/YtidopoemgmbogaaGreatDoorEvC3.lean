/- Calls that are reckoned, each by the kernel. -/
import Derived.Test.YtidopoemgmbogaaGreatDoorEvB0
import Derived.Test.YtidopoemgmbogaaGreatDoorEvB1
import Derived.KernelRfl
namespace Go.Proofs.YtidopoemgmbogaaGreatDoor
open Go.Mt
set_option maxRecDepth 100000
theorem g6 : AllOk Tryz.prog Sp [m3] := by
  have o3 : MemoOk Tryz.prog Sp m3 := memoOk (M := []) trivial m3 1 (by kernel_rfl) (by kernel_rfl)
  exact ⟨o3, trivial⟩
end Go.Proofs.YtidopoemgmbogaaGreatDoor
