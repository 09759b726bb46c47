/- Calls that are reckoned, each by the kernel. -/
import Derived.Test.YtidopoemgmbogaaGreatDoorEvB0
import Derived.Test.YtidopoemgmbogaaGreatDoorEvB1
import Derived.KernelRfl
namespace Go.Proofs.YtidopoemgmbogaaGreatDoor
open Go.Mt
set_option maxRecDepth 100000
theorem g11 : AllOk Tryz.prog Sp [m444] := by
  have o444 : MemoOk Tryz.prog Sp m444 := memoOk (M := []) trivial m444 1 (by kernel_rfl) (by kernel_rfl)
  exact ⟨o444, trivial⟩
theorem g12 : AllOk Tryz.prog Sp [m14] := by
  have o14 : MemoOk Tryz.prog Sp m14 := memoOk (M := []) trivial m14 1 (by kernel_rfl) (by kernel_rfl)
  exact ⟨o14, trivial⟩
end Go.Proofs.YtidopoemgmbogaaGreatDoor
