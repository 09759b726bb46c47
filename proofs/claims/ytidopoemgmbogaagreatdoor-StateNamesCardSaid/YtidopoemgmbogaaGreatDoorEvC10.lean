/- Calls that are reckoned, each by the kernel. -/
import Derived.Test.YtidopoemgmbogaaGreatDoorEvB0
import Derived.Test.YtidopoemgmbogaaGreatDoorEvB1
import Derived.KernelRfl
namespace Go.Proofs.YtidopoemgmbogaaGreatDoor
open Go.Mt
set_option maxRecDepth 100000
theorem g16 : AllOk Tryz.prog Sp [m158, m160] := by
  have o158 : MemoOk Tryz.prog Sp m158 := memoOk (M := []) trivial m158 1 (by kernel_rfl) (by kernel_rfl)
  have o160 : MemoOk Tryz.prog Sp m160 := memoOk (M := []) trivial m160 1 (by kernel_rfl) (by kernel_rfl)
  exact ⟨o158, o160, trivial⟩
theorem g17 : AllOk Tryz.prog Sp [m169, m171] := by
  have o169 : MemoOk Tryz.prog Sp m169 := memoOk (M := []) trivial m169 1 (by kernel_rfl) (by kernel_rfl)
  have o171 : MemoOk Tryz.prog Sp m171 := memoOk (M := []) trivial m171 1 (by kernel_rfl) (by kernel_rfl)
  exact ⟨o169, o171, trivial⟩
end Go.Proofs.YtidopoemgmbogaaGreatDoor
