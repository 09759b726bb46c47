/- Calls that are reckoned, each by the kernel. -/
import Derived.Test.YtidopoemgmbogaaGreatDoorEvB0
import Derived.Test.YtidopoemgmbogaaGreatDoorEvB1
import Derived.KernelRfl
namespace Go.Proofs.YtidopoemgmbogaaGreatDoor
open Go.Mt
set_option maxRecDepth 100000
theorem g13 : AllOk Tryz.prog Sp [m16] := by
  have o16 : MemoOk Tryz.prog Sp m16 := memoOk (M := []) trivial m16 1 (by kernel_rfl) (by kernel_rfl)
  exact ⟨o16, trivial⟩
theorem g14 : AllOk Tryz.prog Sp [m63] := by
  have o63 : MemoOk Tryz.prog Sp m63 := memoOk (M := []) trivial m63 1 (by kernel_rfl) (by kernel_rfl)
  exact ⟨o63, trivial⟩
theorem g15 : AllOk Tryz.prog Sp [m65, m111, m113] := by
  have o65 : MemoOk Tryz.prog Sp m65 := memoOk (M := []) trivial m65 1 (by kernel_rfl) (by kernel_rfl)
  have o111 : MemoOk Tryz.prog Sp m111 := memoOk (M := []) trivial m111 1 (by kernel_rfl) (by kernel_rfl)
  have o113 : MemoOk Tryz.prog Sp m113 := memoOk (M := []) trivial m113 1 (by kernel_rfl) (by kernel_rfl)
  exact ⟨o65, o111, o113, trivial⟩
end Go.Proofs.YtidopoemgmbogaaGreatDoor
