/- Calls that are reckoned, each by the kernel. -/
import Derived.Test.YtidopoemgmbogaaGreatDoorEvB0
import Derived.Test.YtidopoemgmbogaaGreatDoorEvB1
import Derived.KernelRfl
namespace Go.Proofs.YtidopoemgmbogaaGreatDoor
open Go.Mt
set_option maxRecDepth 100000
theorem g9 : AllOk Tryz.prog Sp [m224] := by
  have o224 : MemoOk Tryz.prog Sp m224 := memoOk (M := []) trivial m224 1 (by kernel_rfl) (by kernel_rfl)
  exact ⟨o224, trivial⟩
end Go.Proofs.YtidopoemgmbogaaGreatDoor
