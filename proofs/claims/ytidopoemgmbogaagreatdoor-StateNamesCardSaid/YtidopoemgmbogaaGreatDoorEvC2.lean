/- Calls that are reckoned, each by the kernel. -/
import Derived.Test.YtidopoemgmbogaaGreatDoorEvB0
import Derived.Test.YtidopoemgmbogaaGreatDoorEvB1
import Derived.KernelRfl
namespace Go.Proofs.YtidopoemgmbogaaGreatDoor
open Go.Mt
set_option maxRecDepth 100000
theorem g4 : AllOk Tryz.prog Sp [m425, m21, m384, m369, m94, m210, m339, m367, m381, m157, m168, m430, m35, m106, m119, m154] := by
  have o425 : MemoOk Tryz.prog Sp m425 := memoOk (M := []) trivial m425 1 (by kernel_rfl) (by kernel_rfl)
  have o21 : MemoOk Tryz.prog Sp m21 := memoOk (M := []) trivial m21 1 (by kernel_rfl) (by kernel_rfl)
  have o384 : MemoOk Tryz.prog Sp m384 := memoOk (M := []) trivial m384 1 (by kernel_rfl) (by kernel_rfl)
  have o369 : MemoOk Tryz.prog Sp m369 := memoOk (M := []) trivial m369 1 (by kernel_rfl) (by kernel_rfl)
  have o94 : MemoOk Tryz.prog Sp m94 := memoOk (M := []) trivial m94 2 (by kernel_rfl) (by kernel_rfl)
  have o210 : MemoOk Tryz.prog Sp m210 := memoOk (M := []) trivial m210 2 (by kernel_rfl) (by kernel_rfl)
  have o339 : MemoOk Tryz.prog Sp m339 := memoOk (M := []) trivial m339 2 (by kernel_rfl) (by kernel_rfl)
  have o367 : MemoOk Tryz.prog Sp m367 := memoOk (M := []) trivial m367 2 (by kernel_rfl) (by kernel_rfl)
  have o381 : MemoOk Tryz.prog Sp m381 := memoOk (M := []) trivial m381 2 (by kernel_rfl) (by kernel_rfl)
  have o157 : MemoOk Tryz.prog Sp m157 := memoOk (M := []) trivial m157 1 (by kernel_rfl) (by kernel_rfl)
  have o168 : MemoOk Tryz.prog Sp m168 := memoOk (M := []) trivial m168 1 (by kernel_rfl) (by kernel_rfl)
  have o430 : MemoOk Tryz.prog Sp m430 := memoOk (M := []) trivial m430 1 (by kernel_rfl) (by kernel_rfl)
  have o35 : MemoOk Tryz.prog Sp m35 := memoOk (M := []) trivial m35 1 (by kernel_rfl) (by kernel_rfl)
  have o106 : MemoOk Tryz.prog Sp m106 := memoOk (M := []) trivial m106 1 (by kernel_rfl) (by kernel_rfl)
  have o119 : MemoOk Tryz.prog Sp m119 := memoOk (M := []) trivial m119 1 (by kernel_rfl) (by kernel_rfl)
  have o154 : MemoOk Tryz.prog Sp m154 := memoOk (M := []) trivial m154 1 (by kernel_rfl) (by kernel_rfl)
  exact ⟨o425, o21, o384, o369, o94, o210, o339, o367, o381, o157, o168, o430, o35, o106, o119, o154, trivial⟩
theorem g5 : AllOk Tryz.prog Sp [m166, m202, m284, m305, m34, m82, m127, m137, m254, m353] := by
  have o166 : MemoOk Tryz.prog Sp m166 := memoOk (M := []) trivial m166 1 (by kernel_rfl) (by kernel_rfl)
  have o202 : MemoOk Tryz.prog Sp m202 := memoOk (M := []) trivial m202 1 (by kernel_rfl) (by kernel_rfl)
  have o284 : MemoOk Tryz.prog Sp m284 := memoOk (M := []) trivial m284 1 (by kernel_rfl) (by kernel_rfl)
  have o305 : MemoOk Tryz.prog Sp m305 := memoOk (M := []) trivial m305 1 (by kernel_rfl) (by kernel_rfl)
  have o34 : MemoOk Tryz.prog Sp m34 := memoOk (M := []) trivial m34 1 (by kernel_rfl) (by kernel_rfl)
  have o82 : MemoOk Tryz.prog Sp m82 := memoOk (M := []) trivial m82 1 (by kernel_rfl) (by kernel_rfl)
  have o127 : MemoOk Tryz.prog Sp m127 := memoOk (M := []) trivial m127 1 (by kernel_rfl) (by kernel_rfl)
  have o137 : MemoOk Tryz.prog Sp m137 := memoOk (M := []) trivial m137 1 (by kernel_rfl) (by kernel_rfl)
  have o254 : MemoOk Tryz.prog Sp m254 := memoOk (M := []) trivial m254 1 (by kernel_rfl) (by kernel_rfl)
  have o353 : MemoOk Tryz.prog Sp m353 := memoOk (M := []) trivial m353 1 (by kernel_rfl) (by kernel_rfl)
  exact ⟨o166, o202, o284, o305, o34, o82, o127, o137, o254, o353, trivial⟩
end Go.Proofs.YtidopoemgmbogaaGreatDoor
