/- Calls that are reckoned, each by the kernel. -/
import Derived.Test.YtidopoemgmbogaaGreatDoorEvB0
import Derived.Test.YtidopoemgmbogaaGreatDoorEvB1
import Derived.Test.YtidopoemgmbogaaGreatDoorEvC0
import Derived.Test.YtidopoemgmbogaaGreatDoorEvC2
import Derived.Test.YtidopoemgmbogaaGreatDoorEvC16
import Derived.Test.YtidopoemgmbogaaGreatDoorEvC17
import Derived.Test.YtidopoemgmbogaaGreatDoorEvC19
import Derived.Test.YtidopoemgmbogaaGreatDoorEvC20
import Derived.KernelRfl
namespace Go.Proofs.YtidopoemgmbogaaGreatDoor
open Go.Mt
set_option maxRecDepth 100000
theorem g35 : AllOk Tryz.prog Sp [m258, m288, m357, m26, m74, m180, m188, m243, m313, m334, m110, m123, m281, m438, m23, m49, m71, m239] := by
  have o258 : MemoOk Tryz.prog Sp m258 := memoOk (M := [m202, m253, m254]) ⟨g5.2.1, g30.2.2.2.1, g5.2.2.2.2.2.2.2.2.1, trivial⟩ m258 2 (by kernel_rfl) (by kernel_rfl)
  have o288 : MemoOk Tryz.prog Sp m288 := memoOk (M := [m202, m253, m254]) ⟨g5.2.1, g30.2.2.2.1, g5.2.2.2.2.2.2.2.2.1, trivial⟩ m288 2 (by kernel_rfl) (by kernel_rfl)
  have o357 : MemoOk Tryz.prog Sp m357 := memoOk (M := [m305, m352, m353]) ⟨g5.2.2.2.1, g30.2.2.2.2.1, g5.2.2.2.2.2.2.2.2.2.1, trivial⟩ m357 2 (by kernel_rfl) (by kernel_rfl)
  have o26 : MemoOk Tryz.prog Sp m26 := memoOk (M := [m0, m13]) ⟨g1.2.2.1, g32.2.2.2.2.2.2.2.2.2.2.2.2.1, trivial⟩ m26 2 (by kernel_rfl) (by kernel_rfl)
  have o74 : MemoOk Tryz.prog Sp m74 := memoOk (M := [m0, m13]) ⟨g1.2.2.1, g32.2.2.2.2.2.2.2.2.2.2.2.2.1, trivial⟩ m74 2 (by kernel_rfl) (by kernel_rfl)
  have o180 : MemoOk Tryz.prog Sp m180 := memoOk (M := [m0, m13]) ⟨g1.2.2.1, g32.2.2.2.2.2.2.2.2.2.2.2.2.1, trivial⟩ m180 2 (by kernel_rfl) (by kernel_rfl)
  have o188 : MemoOk Tryz.prog Sp m188 := memoOk (M := [m0, m13]) ⟨g1.2.2.1, g32.2.2.2.2.2.2.2.2.2.2.2.2.1, trivial⟩ m188 2 (by kernel_rfl) (by kernel_rfl)
  have o243 : MemoOk Tryz.prog Sp m243 := memoOk (M := [m0, m13]) ⟨g1.2.2.1, g32.2.2.2.2.2.2.2.2.2.2.2.2.1, trivial⟩ m243 2 (by kernel_rfl) (by kernel_rfl)
  have o313 : MemoOk Tryz.prog Sp m313 := memoOk (M := [m0, m13]) ⟨g1.2.2.1, g32.2.2.2.2.2.2.2.2.2.2.2.2.1, trivial⟩ m313 2 (by kernel_rfl) (by kernel_rfl)
  have o334 : MemoOk Tryz.prog Sp m334 := memoOk (M := [m0, m13]) ⟨g1.2.2.1, g32.2.2.2.2.2.2.2.2.2.2.2.2.1, trivial⟩ m334 2 (by kernel_rfl) (by kernel_rfl)
  have o110 : MemoOk Tryz.prog Sp m110 := memoOk (M := [m81]) ⟨g30.2.2.1, trivial⟩ m110 1 (by kernel_rfl) (by kernel_rfl)
  have o123 : MemoOk Tryz.prog Sp m123 := memoOk (M := [m33]) ⟨g30.2.1, trivial⟩ m123 1 (by kernel_rfl) (by kernel_rfl)
  have o281 : MemoOk Tryz.prog Sp m281 := memoOk (M := [m253]) ⟨g30.2.2.2.1, trivial⟩ m281 1 (by kernel_rfl) (by kernel_rfl)
  have o438 : MemoOk Tryz.prog Sp m438 := memoOk (M := [m437]) ⟨g30.2.2.2.2.2.1, trivial⟩ m438 1 (by kernel_rfl) (by kernel_rfl)
  have o23 : MemoOk Tryz.prog Sp m23 := memoOk (M := [m4, m13]) ⟨g25.2.2.2.2.2.2.1, g32.2.2.2.2.2.2.2.2.2.2.2.2.1, trivial⟩ m23 2 (by kernel_rfl) (by kernel_rfl)
  have o49 : MemoOk Tryz.prog Sp m49 := memoOk (M := [m4, m13]) ⟨g25.2.2.2.2.2.2.1, g32.2.2.2.2.2.2.2.2.2.2.2.2.1, trivial⟩ m49 2 (by kernel_rfl) (by kernel_rfl)
  have o71 : MemoOk Tryz.prog Sp m71 := memoOk (M := [m4, m13]) ⟨g25.2.2.2.2.2.2.1, g32.2.2.2.2.2.2.2.2.2.2.2.2.1, trivial⟩ m71 2 (by kernel_rfl) (by kernel_rfl)
  have o239 : MemoOk Tryz.prog Sp m239 := memoOk (M := [m4, m13]) ⟨g25.2.2.2.2.2.2.1, g32.2.2.2.2.2.2.2.2.2.2.2.2.1, trivial⟩ m239 2 (by kernel_rfl) (by kernel_rfl)
  exact ⟨o258, o288, o357, o26, o74, o180, o188, o243, o313, o334, o110, o123, o281, o438, o23, o49, o71, o239, trivial⟩
theorem g36 : AllOk Tryz.prog Sp [m448, m45, m91, m264] := by
  have o448 : MemoOk Tryz.prog Sp m448 := memoOk (M := [m447]) ⟨g32.2.2.2.2.2.2.2.2.2.2.2.2.2.1, trivial⟩ m448 2 (by kernel_rfl) (by kernel_rfl)
  have o45 : MemoOk Tryz.prog Sp m45 := memoOk (M := [m44, m43, m33]) ⟨g1.2.2.2.2.2.2.1, g23.2.2.2.2.2.2.2.2.2.1, g30.2.1, trivial⟩ m45 2 (by kernel_rfl) (by kernel_rfl)
  have o91 : MemoOk Tryz.prog Sp m91 := memoOk (M := [m44, m90, m81]) ⟨g1.2.2.2.2.2.2.1, g23.2.2.2.2.2.2.2.2.2.2.1, g30.2.2.1, trivial⟩ m91 2 (by kernel_rfl) (by kernel_rfl)
  have o264 : MemoOk Tryz.prog Sp m264 := memoOk (M := [m263, m262, m253]) ⟨g1.2.2.2.2.2.2.2.1, g23.2.2.2.2.2.2.2.2.2.2.2.1, g30.2.2.2.1, trivial⟩ m264 2 (by kernel_rfl) (by kernel_rfl)
  exact ⟨o448, o45, o91, o264, trivial⟩
end Go.Proofs.YtidopoemgmbogaaGreatDoor
