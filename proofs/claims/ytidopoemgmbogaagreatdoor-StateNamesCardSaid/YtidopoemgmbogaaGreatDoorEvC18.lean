/- Calls that are reckoned, each by the kernel. -/
import Derived.Test.YtidopoemgmbogaaGreatDoorEvB0
import Derived.Test.YtidopoemgmbogaaGreatDoorEvB1
import Derived.Test.YtidopoemgmbogaaGreatDoorEvC16
import Derived.KernelRfl
namespace Go.Proofs.YtidopoemgmbogaaGreatDoor
open Go.Mt
set_option maxRecDepth 100000
theorem g27 : AllOk Tryz.prog Sp [m167, m203, m206] := by
  have o167 : MemoOk Tryz.prog Sp m167 := memoOk (M := [m155]) ⟨g23.2.2.2.2.1, trivial⟩ m167 2 (by kernel_rfl) (by kernel_rfl)
  have o203 : MemoOk Tryz.prog Sp m203 := memoOk (M := [m155]) ⟨g23.2.2.2.2.1, trivial⟩ m203 2 (by kernel_rfl) (by kernel_rfl)
  have o206 : MemoOk Tryz.prog Sp m206 := memoOk (M := [m155]) ⟨g23.2.2.2.2.1, trivial⟩ m206 2 (by kernel_rfl) (by kernel_rfl)
  exact ⟨o167, o203, o206, trivial⟩
theorem g28 : AllOk Tryz.prog Sp [m280, m285, m296] := by
  have o280 : MemoOk Tryz.prog Sp m280 := memoOk (M := [m279, m278]) ⟨g23.2.2.2.2.2.2.1, g23.2.2.2.2.2.1, trivial⟩ m280 2 (by kernel_rfl) (by kernel_rfl)
  have o285 : MemoOk Tryz.prog Sp m285 := memoOk (M := [m279, m155]) ⟨g23.2.2.2.2.2.2.1, g23.2.2.2.2.1, trivial⟩ m285 2 (by kernel_rfl) (by kernel_rfl)
  have o296 : MemoOk Tryz.prog Sp m296 := memoOk (M := [m295]) ⟨g23.2.2.2.2.2.2.2.1, trivial⟩ m296 2 (by kernel_rfl) (by kernel_rfl)
  exact ⟨o280, o285, o296, trivial⟩
end Go.Proofs.YtidopoemgmbogaaGreatDoor
