/- Calls that are reckoned, each by the kernel. -/
import Derived.Test.YtidopoemgmbogaaGreatDoorEvB0
import Derived.Test.YtidopoemgmbogaaGreatDoorEvB1
import Derived.Test.YtidopoemgmbogaaGreatDoorEvC1
import Derived.Test.YtidopoemgmbogaaGreatDoorEvC2
import Derived.Test.YtidopoemgmbogaaGreatDoorEvC16
import Derived.KernelRfl
namespace Go.Proofs.YtidopoemgmbogaaGreatDoor
open Go.Mt
set_option maxRecDepth 100000
theorem g29 : AllOk Tryz.prog Sp [m306, m324, m327, m397, m400] := by
  have o306 : MemoOk Tryz.prog Sp m306 := memoOk (M := [m295]) ⟨g23.2.2.2.2.2.2.2.1, trivial⟩ m306 2 (by kernel_rfl) (by kernel_rfl)
  have o324 : MemoOk Tryz.prog Sp m324 := memoOk (M := [m295]) ⟨g23.2.2.2.2.2.2.2.1, trivial⟩ m324 2 (by kernel_rfl) (by kernel_rfl)
  have o327 : MemoOk Tryz.prog Sp m327 := memoOk (M := [m295]) ⟨g23.2.2.2.2.2.2.2.1, trivial⟩ m327 2 (by kernel_rfl) (by kernel_rfl)
  have o397 : MemoOk Tryz.prog Sp m397 := memoOk (M := [m396]) ⟨g23.2.2.2.2.2.2.2.2.1, trivial⟩ m397 2 (by kernel_rfl) (by kernel_rfl)
  have o400 : MemoOk Tryz.prog Sp m400 := memoOk (M := [m5]) ⟨g2.2.2.2.2.1, trivial⟩ m400 2 (by kernel_rfl) (by kernel_rfl)
  exact ⟨o306, o324, o327, o397, o400, trivial⟩
theorem g30 : AllOk Tryz.prog Sp [m426, m33, m81, m253, m352, m437, m36, m83, m128, m138, m255, m354, m95] := by
  have o426 : MemoOk Tryz.prog Sp m426 := memoOk (M := [m245, m425, m424, m423, m422, m421, m420, m419, m418, m417, m416, m415, m414, m413, m412, m411, m410, m409, m408, m407, m406, m405, m404, m403]) ⟨g2.2.2.2.2.2.2.2.2.2.2.2.1, g4.1, g3.2.2.2.2.2.2.2.2.2.2.2.2.2.2.2.2.2.1, g3.2.2.2.2.2.2.2.2.2.2.2.2.2.2.2.2.1, g3.2.2.2.2.2.2.2.2.2.2.2.2.2.2.2.1, g3.2.2.2.2.2.2.2.2.2.2.2.2.2.2.1, g3.2.2.2.2.2.2.2.2.2.2.2.2.2.1, g3.2.2.2.2.2.2.2.2.2.2.2.2.1, g3.2.2.2.2.2.2.2.2.2.2.2.1, g3.2.2.2.2.2.2.2.2.2.2.1, g3.2.2.2.2.2.2.2.2.2.1, g3.2.2.2.2.2.2.2.2.1, g3.2.2.2.2.2.2.2.1, g3.2.2.2.2.2.2.1, g3.2.2.2.2.2.1, g3.2.2.2.2.1, g3.2.2.2.1, g3.2.2.1, g3.2.1, g3.1, g2.2.2.2.2.2.2.2.2.2.2.2.2.2.2.2.2.2.2.1, g2.2.2.2.2.2.2.2.2.2.2.2.2.2.2.2.2.2.1, g2.2.2.2.2.2.2.2.2.2.2.2.2.2.2.2.2.1, g2.2.2.2.2.2.2.2.2.2.2.2.2.2.2.2.1, trivial⟩ m426 2 (by kernel_rfl) (by kernel_rfl)
  have o33 : MemoOk Tryz.prog Sp m33 := memoOk (M := [m21]) ⟨g4.2.1, trivial⟩ m33 1 (by kernel_rfl) (by kernel_rfl)
  have o81 : MemoOk Tryz.prog Sp m81 := memoOk (M := [m21]) ⟨g4.2.1, trivial⟩ m81 1 (by kernel_rfl) (by kernel_rfl)
  have o253 : MemoOk Tryz.prog Sp m253 := memoOk (M := [m21]) ⟨g4.2.1, trivial⟩ m253 1 (by kernel_rfl) (by kernel_rfl)
  have o352 : MemoOk Tryz.prog Sp m352 := memoOk (M := [m21]) ⟨g4.2.1, trivial⟩ m352 1 (by kernel_rfl) (by kernel_rfl)
  have o437 : MemoOk Tryz.prog Sp m437 := memoOk (M := [m384]) ⟨g4.2.2.1, trivial⟩ m437 1 (by kernel_rfl) (by kernel_rfl)
  have o36 : MemoOk Tryz.prog Sp m36 := memoOk (M := [m35, m34]) ⟨g4.2.2.2.2.2.2.2.2.2.2.2.2.1, g5.2.2.2.2.1, trivial⟩ m36 2 (by kernel_rfl) (by kernel_rfl)
  have o83 : MemoOk Tryz.prog Sp m83 := memoOk (M := [m35, m82]) ⟨g4.2.2.2.2.2.2.2.2.2.2.2.2.1, g5.2.2.2.2.2.1, trivial⟩ m83 2 (by kernel_rfl) (by kernel_rfl)
  have o128 : MemoOk Tryz.prog Sp m128 := memoOk (M := [m106, m127]) ⟨g4.2.2.2.2.2.2.2.2.2.2.2.2.2.1, g5.2.2.2.2.2.2.1, trivial⟩ m128 2 (by kernel_rfl) (by kernel_rfl)
  have o138 : MemoOk Tryz.prog Sp m138 := memoOk (M := [m119, m137]) ⟨g4.2.2.2.2.2.2.2.2.2.2.2.2.2.2.1, g5.2.2.2.2.2.2.2.1, trivial⟩ m138 2 (by kernel_rfl) (by kernel_rfl)
  have o255 : MemoOk Tryz.prog Sp m255 := memoOk (M := [m202, m254]) ⟨g5.2.1, g5.2.2.2.2.2.2.2.2.1, trivial⟩ m255 2 (by kernel_rfl) (by kernel_rfl)
  have o354 : MemoOk Tryz.prog Sp m354 := memoOk (M := [m305, m353]) ⟨g5.2.2.2.1, g5.2.2.2.2.2.2.2.2.2.1, trivial⟩ m354 2 (by kernel_rfl) (by kernel_rfl)
  have o95 : MemoOk Tryz.prog Sp m95 := memoOk (M := [m21]) ⟨g4.2.1, trivial⟩ m95 1 (by kernel_rfl) (by kernel_rfl)
  exact ⟨o426, o33, o81, o253, o352, o437, o36, o83, o128, o138, o255, o354, o95, trivial⟩
end Go.Proofs.YtidopoemgmbogaaGreatDoor
