/- Calls that are reckoned, each by the kernel. -/
import Derived.Test.YtidopoemgmbogaaGreatDoorEvB0
import Derived.Test.YtidopoemgmbogaaGreatDoorEvB1
import Derived.Test.YtidopoemgmbogaaGreatDoorEvC0
import Derived.Test.YtidopoemgmbogaaGreatDoorEvC1
import Derived.Test.YtidopoemgmbogaaGreatDoorEvC2
import Derived.Test.YtidopoemgmbogaaGreatDoorEvC16
import Derived.Test.YtidopoemgmbogaaGreatDoorEvC17
import Derived.Test.YtidopoemgmbogaaGreatDoorEvC19
import Derived.Test.YtidopoemgmbogaaGreatDoorEvC21
import Derived.KernelRfl
namespace Go.Proofs.YtidopoemgmbogaaGreatDoor
open Go.Mt
set_option maxRecDepth 100000
theorem g37 : AllOk Tryz.prog Sp [m363, m135, m144, m289, m12, m62, m230, m41, m88, m182, m190] := by
  have o363 : MemoOk Tryz.prog Sp m363 := memoOk (M := [m362, m361, m352]) ⟨g1.2.2.2.2.2.2.2.2.1, g23.2.2.2.2.2.2.2.2.2.2.2.2.1, g30.2.2.2.2.1, trivial⟩ m363 2 (by kernel_rfl) (by kernel_rfl)
  have o135 : MemoOk Tryz.prog Sp m135 := memoOk (M := [m134, m106, m127, m132]) ⟨g25.2.2.2.2.2.2.2.2.2.2.2.1, g4.2.2.2.2.2.2.2.2.2.2.2.2.2.1, g5.2.2.2.2.2.2.1, g1.2.2.2.2.2.2.2.2.2.2.2.2.2.1, trivial⟩ m135 1 (by kernel_rfl) (by kernel_rfl)
  have o144 : MemoOk Tryz.prog Sp m144 := memoOk (M := [m143, m119, m137, m142]) ⟨g25.2.2.2.2.2.2.2.2.2.2.2.2.1, g4.2.2.2.2.2.2.2.2.2.2.2.2.2.2.1, g5.2.2.2.2.2.2.2.1, g1.2.2.2.2.2.2.2.2.2.2.2.2.2.2.1, trivial⟩ m144 1 (by kernel_rfl) (by kernel_rfl)
  have o289 : MemoOk Tryz.prog Sp m289 := memoOk (M := [m269, m202, m254, m259]) ⟨g25.2.2.2.2.2.2.2.2.2.2.2.2.2.1, g5.2.1, g5.2.2.2.2.2.2.2.2.1, g1.2.2.2.2.2.2.2.2.2.2.2.2.2.2.2.2.1, trivial⟩ m289 1 (by kernel_rfl) (by kernel_rfl)
  have o12 : MemoOk Tryz.prog Sp m12 := memoOk (M := [m6]) ⟨g25.2.2.1, trivial⟩ m12 1 (by kernel_rfl) (by kernel_rfl)
  have o62 : MemoOk Tryz.prog Sp m62 := memoOk (M := [m57]) ⟨g25.2.2.2.1, trivial⟩ m62 1 (by kernel_rfl) (by kernel_rfl)
  have o230 : MemoOk Tryz.prog Sp m230 := memoOk (M := [m229]) ⟨g25.2.2.2.2.2.1, trivial⟩ m230 1 (by kernel_rfl) (by kernel_rfl)
  have o41 : MemoOk Tryz.prog Sp m41 := memoOk (M := [m21, m35, m33, m34]) ⟨g4.2.1, g4.2.2.2.2.2.2.2.2.2.2.2.2.1, g30.2.1, g5.2.2.2.2.1, trivial⟩ m41 2 (by kernel_rfl) (by kernel_rfl)
  have o88 : MemoOk Tryz.prog Sp m88 := memoOk (M := [m21, m35, m81, m82]) ⟨g4.2.1, g4.2.2.2.2.2.2.2.2.2.2.2.2.1, g30.2.2.1, g5.2.2.2.2.2.1, trivial⟩ m88 2 (by kernel_rfl) (by kernel_rfl)
  have o182 : MemoOk Tryz.prog Sp m182 := memoOk (M := [m106, m81, m127]) ⟨g4.2.2.2.2.2.2.2.2.2.2.2.2.2.1, g30.2.2.1, g5.2.2.2.2.2.2.1, trivial⟩ m182 2 (by kernel_rfl) (by kernel_rfl)
  have o190 : MemoOk Tryz.prog Sp m190 := memoOk (M := [m119, m33, m137]) ⟨g4.2.2.2.2.2.2.2.2.2.2.2.2.2.2.1, g30.2.1, g5.2.2.2.2.2.2.2.1, trivial⟩ m190 2 (by kernel_rfl) (by kernel_rfl)
  exact ⟨o363, o135, o144, o289, o12, o62, o230, o41, o88, o182, o190, trivial⟩
theorem g38 : AllOk Tryz.prog Sp [m260, m359, m11, m61, m228, m349, m383, m101, m105, m149, m153, m197, m201] := by
  have o260 : MemoOk Tryz.prog Sp m260 := memoOk (M := [m202, m253, m254]) ⟨g5.2.1, g30.2.2.2.1, g5.2.2.2.2.2.2.2.2.1, trivial⟩ m260 2 (by kernel_rfl) (by kernel_rfl)
  have o359 : MemoOk Tryz.prog Sp m359 := memoOk (M := [m305, m352, m353]) ⟨g5.2.2.2.1, g30.2.2.2.2.1, g5.2.2.2.2.2.2.2.2.2.1, trivial⟩ m359 2 (by kernel_rfl) (by kernel_rfl)
  have o11 : MemoOk Tryz.prog Sp m11 := memoOk (M := [m10, m9, m7, m4, m2]) ⟨g0.2.2.1, g25.2.2.2.2.2.2.2.1, g33.2.2.2.2.2.1, g25.2.2.2.2.2.2.1, g24.2.1, trivial⟩ m11 2 (by kernel_rfl) (by kernel_rfl)
  have o61 : MemoOk Tryz.prog Sp m61 := memoOk (M := [m10, m60, m58, m4, m2]) ⟨g0.2.2.1, g25.2.2.2.2.2.2.2.2.1, g33.2.2.2.2.2.2.1, g25.2.2.2.2.2.2.1, g24.2.1, trivial⟩ m61 2 (by kernel_rfl) (by kernel_rfl)
  have o228 : MemoOk Tryz.prog Sp m228 := memoOk (M := [m227, m226, m223, m4, m2]) ⟨g0.2.2.2.1, g25.2.2.2.2.2.2.2.2.2.1, g33.2.2.2.2.2.2.2.1, g25.2.2.2.2.2.2.1, g24.2.1, trivial⟩ m228 2 (by kernel_rfl) (by kernel_rfl)
  have o349 : MemoOk Tryz.prog Sp m349 := memoOk (M := [m115, m112, m348]) ⟨g34.2.2.2.2.2.2.2.2.2.2.2.2.2.2.2.2.1, g25.2.2.2.2.2.2.2.2.2.2.2.2.2.2.1, g2.2.2.2.2.2.2.2.2.2.2.2.2.2.2.1, trivial⟩ m349 1 (by kernel_rfl) (by kernel_rfl)
  have o383 : MemoOk Tryz.prog Sp m383 := memoOk (M := [m115, m112, m5]) ⟨g34.2.2.2.2.2.2.2.2.2.2.2.2.2.2.2.2.1, g25.2.2.2.2.2.2.2.2.2.2.2.2.2.2.1, g2.2.2.2.2.1, trivial⟩ m383 1 (by kernel_rfl) (by kernel_rfl)
  have o101 : MemoOk Tryz.prog Sp m101 := memoOk (M := [m100, m98]) ⟨g34.2.2.2.2.2.2.1, g24.2.2.2.2.2.2.2.2.2.2.1, trivial⟩ m101 2 (by kernel_rfl) (by kernel_rfl)
  have o105 : MemoOk Tryz.prog Sp m105 := memoOk (M := [m104, m102]) ⟨g34.2.2.2.2.2.2.2.1, g24.2.2.2.2.2.2.2.2.2.2.2.1, trivial⟩ m105 2 (by kernel_rfl) (by kernel_rfl)
  have o149 : MemoOk Tryz.prog Sp m149 := memoOk (M := [m148, m146]) ⟨g34.2.2.2.2.2.2.2.2.1, g33.2.2.2.2.2.2.2.2.2.2.2.1, trivial⟩ m149 2 (by kernel_rfl) (by kernel_rfl)
  have o153 : MemoOk Tryz.prog Sp m153 := memoOk (M := [m152, m150]) ⟨g34.2.2.2.2.2.2.2.2.2.1, g33.2.2.2.2.2.2.2.2.2.2.2.2.1, trivial⟩ m153 2 (by kernel_rfl) (by kernel_rfl)
  have o197 : MemoOk Tryz.prog Sp m197 := memoOk (M := [m196, m194]) ⟨g34.2.2.2.2.2.2.2.2.2.2.1, g24.2.2.2.2.2.2.2.2.2.2.2.2.1, trivial⟩ m197 2 (by kernel_rfl) (by kernel_rfl)
  have o201 : MemoOk Tryz.prog Sp m201 := memoOk (M := [m200, m198]) ⟨g34.2.2.2.2.2.2.2.2.2.2.2.1, g24.2.2.2.2.2.2.2.2.2.2.2.2.2.1, trivial⟩ m201 2 (by kernel_rfl) (by kernel_rfl)
  exact ⟨o260, o359, o11, o61, o228, o349, o383, o101, o105, o149, o153, o197, o201, trivial⟩
end Go.Proofs.YtidopoemgmbogaaGreatDoor
