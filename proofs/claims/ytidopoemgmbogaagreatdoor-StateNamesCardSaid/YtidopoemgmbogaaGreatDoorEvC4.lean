/- Calls that are reckoned, each by the kernel. -/
import Derived.Test.YtidopoemgmbogaaGreatDoorEvB0
import Derived.Test.YtidopoemgmbogaaGreatDoorEvB1
import Derived.KernelRfl
namespace Go.Proofs.YtidopoemgmbogaaGreatDoor
open Go.Mt
set_option maxRecDepth 100000
theorem g7 : AllOk Tryz.prog Sp [m8] := by
  have o8 : MemoOk Tryz.prog Sp m8 := memoOk (M := []) trivial m8 1 (by kernel_rfl) (by kernel_rfl)
  exact ⟨o8, trivial⟩
end Go.Proofs.YtidopoemgmbogaaGreatDoor
