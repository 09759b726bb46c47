/- Calls that are reckoned, each by the kernel. -/
import Derived.Test.YtidopoemgmbogaaGreatDoorEvB0
import Derived.Test.YtidopoemgmbogaaGreatDoorEvB1
import Derived.KernelRfl
namespace Go.Proofs.YtidopoemgmbogaaGreatDoor
open Go.Mt
set_option maxRecDepth 100000
theorem g10 : AllOk Tryz.prog Sp [m225] := by
  have o225 : MemoOk Tryz.prog Sp m225 := memoOk (M := []) trivial m225 1 (by kernel_rfl) (by kernel_rfl)
  exact ⟨o225, trivial⟩
end Go.Proofs.YtidopoemgmbogaaGreatDoor
