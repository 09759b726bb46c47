/- Calls that are reckoned, each by the kernel. -/
import Derived.Test.YtidopoemgmbogaaGreatDoorEvB0
import Derived.Test.YtidopoemgmbogaaGreatDoorEvB1
import Derived.Test.YtidopoemgmbogaaGreatDoorEvC0
import Derived.Test.YtidopoemgmbogaaGreatDoorEvC1
import Derived.Test.YtidopoemgmbogaaGreatDoorEvC2
import Derived.Test.YtidopoemgmbogaaGreatDoorEvC17
import Derived.Test.YtidopoemgmbogaaGreatDoorEvC21
import Derived.Test.YtidopoemgmbogaaGreatDoorEvC23
import Derived.Test.YtidopoemgmbogaaGreatDoorEvC24
import Derived.KernelRfl
namespace Go.Proofs.YtidopoemgmbogaaGreatDoor
open Go.Mt
set_option maxRecDepth 100000
theorem g41 : AllOk Tryz.prog Sp [m242, m244, m311, m312, m314, m333, m116, m124, m22, m48, m70, m178, m186, m238, m310, m360, m52] := by
  have o242 : MemoOk Tryz.prog Sp m242 := memoOk (M := [m57, m62]) ⟨g25.2.2.2.1, g37.2.2.2.2.2.1, trivial⟩ m242 2 (by kernel_rfl) (by kernel_rfl)
  have o244 : MemoOk Tryz.prog Sp m244 := memoOk (M := [m6, m12]) ⟨g25.2.2.1, g37.2.2.2.2.1, trivial⟩ m244 2 (by kernel_rfl) (by kernel_rfl)
  have o311 : MemoOk Tryz.prog Sp m311 := memoOk (M := [m229, m230]) ⟨g25.2.2.2.2.2.1, g37.2.2.2.2.2.2.1, trivial⟩ m311 2 (by kernel_rfl) (by kernel_rfl)
  have o312 : MemoOk Tryz.prog Sp m312 := memoOk (M := [m57, m62]) ⟨g25.2.2.2.1, g37.2.2.2.2.2.1, trivial⟩ m312 2 (by kernel_rfl) (by kernel_rfl)
  have o314 : MemoOk Tryz.prog Sp m314 := memoOk (M := [m6, m12]) ⟨g25.2.2.1, g37.2.2.2.2.1, trivial⟩ m314 2 (by kernel_rfl) (by kernel_rfl)
  have o333 : MemoOk Tryz.prog Sp m333 := memoOk (M := [m6, m12]) ⟨g25.2.2.1, g37.2.2.2.2.1, trivial⟩ m333 2 (by kernel_rfl) (by kernel_rfl)
  have o116 : MemoOk Tryz.prog Sp m116 := memoOk (M := [m115, m112]) ⟨g34.2.2.2.2.2.2.2.2.2.2.2.2.2.2.2.2.1, g25.2.2.2.2.2.2.2.2.2.2.2.2.2.2.1, trivial⟩ m116 1 (by kernel_rfl) (by kernel_rfl)
  have o124 : MemoOk Tryz.prog Sp m124 := memoOk (M := [m115, m112]) ⟨g34.2.2.2.2.2.2.2.2.2.2.2.2.2.2.2.2.1, g25.2.2.2.2.2.2.2.2.2.2.2.2.2.2.1, trivial⟩ m124 1 (by kernel_rfl) (by kernel_rfl)
  have o22 : MemoOk Tryz.prog Sp m22 := memoOk (M := [m9, m12]) ⟨g25.2.2.2.2.2.2.2.1, g37.2.2.2.2.1, trivial⟩ m22 2 (by kernel_rfl) (by kernel_rfl)
  have o48 : MemoOk Tryz.prog Sp m48 := memoOk (M := [m9, m12]) ⟨g25.2.2.2.2.2.2.2.1, g37.2.2.2.2.1, trivial⟩ m48 2 (by kernel_rfl) (by kernel_rfl)
  have o70 : MemoOk Tryz.prog Sp m70 := memoOk (M := [m60, m62]) ⟨g25.2.2.2.2.2.2.2.2.1, g37.2.2.2.2.2.1, trivial⟩ m70 2 (by kernel_rfl) (by kernel_rfl)
  have o178 : MemoOk Tryz.prog Sp m178 := memoOk (M := [m60, m62]) ⟨g25.2.2.2.2.2.2.2.2.1, g37.2.2.2.2.2.1, trivial⟩ m178 2 (by kernel_rfl) (by kernel_rfl)
  have o186 : MemoOk Tryz.prog Sp m186 := memoOk (M := [m9, m12]) ⟨g25.2.2.2.2.2.2.2.1, g37.2.2.2.2.1, trivial⟩ m186 2 (by kernel_rfl) (by kernel_rfl)
  have o238 : MemoOk Tryz.prog Sp m238 := memoOk (M := [m226, m230]) ⟨g25.2.2.2.2.2.2.2.2.2.1, g37.2.2.2.2.2.2.1, trivial⟩ m238 2 (by kernel_rfl) (by kernel_rfl)
  have o310 : MemoOk Tryz.prog Sp m310 := memoOk (M := [m226, m230]) ⟨g25.2.2.2.2.2.2.2.2.2.1, g37.2.2.2.2.2.2.1, trivial⟩ m310 2 (by kernel_rfl) (by kernel_rfl)
  have o360 : MemoOk Tryz.prog Sp m360 := memoOk (M := [m359, m305, m353, m358]) ⟨g38.2.1, g5.2.2.2.1, g5.2.2.2.2.2.2.2.2.2.1, g2.1, trivial⟩ m360 1 (by kernel_rfl) (by kernel_rfl)
  have o52 : MemoOk Tryz.prog Sp m52 := memoOk (M := [m12]) ⟨g37.2.2.2.2.1, trivial⟩ m52 2 (by kernel_rfl) (by kernel_rfl)
  exact ⟨o242, o244, o311, o312, o314, o333, o116, o124, o22, o48, o70, o178, o186, o238, o310, o360, o52, trivial⟩
theorem g42 : AllOk Tryz.prog Sp [m212, m213, m217, m218, m248, m249, m340, m341, m342, m343, m344, m374, m375, m376, m377, m450, m387] := by
  have o212 : MemoOk Tryz.prog Sp m212 := memoOk (M := [m12]) ⟨g37.2.2.2.2.1, trivial⟩ m212 2 (by kernel_rfl) (by kernel_rfl)
  have o213 : MemoOk Tryz.prog Sp m213 := memoOk (M := [m62]) ⟨g37.2.2.2.2.2.1, trivial⟩ m213 2 (by kernel_rfl) (by kernel_rfl)
  have o217 : MemoOk Tryz.prog Sp m217 := memoOk (M := [m12]) ⟨g37.2.2.2.2.1, trivial⟩ m217 2 (by kernel_rfl) (by kernel_rfl)
  have o218 : MemoOk Tryz.prog Sp m218 := memoOk (M := [m62]) ⟨g37.2.2.2.2.2.1, trivial⟩ m218 2 (by kernel_rfl) (by kernel_rfl)
  have o248 : MemoOk Tryz.prog Sp m248 := memoOk (M := [m12]) ⟨g37.2.2.2.2.1, trivial⟩ m248 2 (by kernel_rfl) (by kernel_rfl)
  have o249 : MemoOk Tryz.prog Sp m249 := memoOk (M := [m62]) ⟨g37.2.2.2.2.2.1, trivial⟩ m249 2 (by kernel_rfl) (by kernel_rfl)
  have o340 : MemoOk Tryz.prog Sp m340 := memoOk (M := [m230]) ⟨g37.2.2.2.2.2.2.1, trivial⟩ m340 2 (by kernel_rfl) (by kernel_rfl)
  have o341 : MemoOk Tryz.prog Sp m341 := memoOk (M := [m12]) ⟨g37.2.2.2.2.1, trivial⟩ m341 2 (by kernel_rfl) (by kernel_rfl)
  have o342 : MemoOk Tryz.prog Sp m342 := memoOk (M := [m62]) ⟨g37.2.2.2.2.2.1, trivial⟩ m342 2 (by kernel_rfl) (by kernel_rfl)
  have o343 : MemoOk Tryz.prog Sp m343 := memoOk (M := [m12]) ⟨g37.2.2.2.2.1, trivial⟩ m343 2 (by kernel_rfl) (by kernel_rfl)
  have o344 : MemoOk Tryz.prog Sp m344 := memoOk (M := [m62]) ⟨g37.2.2.2.2.2.1, trivial⟩ m344 2 (by kernel_rfl) (by kernel_rfl)
  have o374 : MemoOk Tryz.prog Sp m374 := memoOk (M := [m230]) ⟨g37.2.2.2.2.2.2.1, trivial⟩ m374 2 (by kernel_rfl) (by kernel_rfl)
  have o375 : MemoOk Tryz.prog Sp m375 := memoOk (M := [m62]) ⟨g37.2.2.2.2.2.1, trivial⟩ m375 2 (by kernel_rfl) (by kernel_rfl)
  have o376 : MemoOk Tryz.prog Sp m376 := memoOk (M := [m12]) ⟨g37.2.2.2.2.1, trivial⟩ m376 2 (by kernel_rfl) (by kernel_rfl)
  have o377 : MemoOk Tryz.prog Sp m377 := memoOk (M := [m62]) ⟨g37.2.2.2.2.2.1, trivial⟩ m377 2 (by kernel_rfl) (by kernel_rfl)
  have o450 : MemoOk Tryz.prog Sp m450 := memoOk (M := [m449, m445, m440]) ⟨g39.2.2.2.2.2.2.2.2.2.2.2.1, g25.2.2.2.2.2.2.2.2.2.2.1, g2.2.2.2.1, trivial⟩ m450 1 (by kernel_rfl) (by kernel_rfl)
  have o387 : MemoOk Tryz.prog Sp m387 := memoOk (M := [m386, m385, m384, m383]) ⟨g26.2.1, g1.2.2.2.2.2.1, g4.2.2.1, g38.2.2.2.2.2.2.1, trivial⟩ m387 1 (by kernel_rfl) (by kernel_rfl)
  exact ⟨o212, o213, o217, o218, o248, o249, o340, o341, o342, o343, o344, o374, o375, o376, o377, o450, o387, trivial⟩
end Go.Proofs.YtidopoemgmbogaaGreatDoor
