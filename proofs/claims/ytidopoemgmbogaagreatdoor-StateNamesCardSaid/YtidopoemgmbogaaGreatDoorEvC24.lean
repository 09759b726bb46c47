/- Calls that are reckoned, each by the kernel. -/
import Derived.Test.YtidopoemgmbogaaGreatDoorEvB0
import Derived.Test.YtidopoemgmbogaaGreatDoorEvB1
import Derived.Test.YtidopoemgmbogaaGreatDoorEvC0
import Derived.Test.YtidopoemgmbogaaGreatDoorEvC1
import Derived.Test.YtidopoemgmbogaaGreatDoorEvC2
import Derived.Test.YtidopoemgmbogaaGreatDoorEvC8
import Derived.Test.YtidopoemgmbogaaGreatDoorEvC9
import Derived.Test.YtidopoemgmbogaaGreatDoorEvC10
import Derived.Test.YtidopoemgmbogaaGreatDoorEvC11
import Derived.Test.YtidopoemgmbogaaGreatDoorEvC13
import Derived.Test.YtidopoemgmbogaaGreatDoorEvC15
import Derived.Test.YtidopoemgmbogaaGreatDoorEvC16
import Derived.Test.YtidopoemgmbogaaGreatDoorEvC17
import Derived.Test.YtidopoemgmbogaaGreatDoorEvC19
import Derived.Test.YtidopoemgmbogaaGreatDoorEvC20
import Derived.Test.YtidopoemgmbogaaGreatDoorEvC21
import Derived.Test.YtidopoemgmbogaaGreatDoorEvC22
import Derived.Test.YtidopoemgmbogaaGreatDoorEvC23
import Derived.KernelRfl
namespace Go.Proofs.YtidopoemgmbogaaGreatDoor
open Go.Mt
set_option maxRecDepth 100000
theorem g39 : AllOk Tryz.prog Sp [m272, m277, m294, m321, m323, m394, m136, m145, m290, m439, m429, m449] := by
  have o272 : MemoOk Tryz.prog Sp m272 := memoOk (M := [m196, m271]) ⟨g34.2.2.2.2.2.2.2.2.2.2.1, g24.2.2.2.2.2.2.2.2.2.2.2.2.2.2.1, trivial⟩ m272 2 (by kernel_rfl) (by kernel_rfl)
  have o277 : MemoOk Tryz.prog Sp m277 := memoOk (M := [m276, m274]) ⟨g34.2.2.2.2.2.2.2.2.2.2.2.2.1, g24.2.2.2.2.2.2.2.2.2.2.2.2.2.2.2.1, trivial⟩ m277 2 (by kernel_rfl) (by kernel_rfl)
  have o294 : MemoOk Tryz.prog Sp m294 := memoOk (M := [m293, m291]) ⟨g34.2.2.2.2.2.2.2.2.2.2.2.2.2.1, g33.2.2.2.2.2.2.2.2.2.2.2.2.2.2.2.1, trivial⟩ m294 2 (by kernel_rfl) (by kernel_rfl)
  have o321 : MemoOk Tryz.prog Sp m321 := memoOk (M := [m320, m318]) ⟨g34.2.2.2.2.2.2.2.2.2.2.2.2.2.2.1, g24.2.2.2.2.2.2.2.2.2.2.2.2.2.2.2.2.1, trivial⟩ m321 2 (by kernel_rfl) (by kernel_rfl)
  have o323 : MemoOk Tryz.prog Sp m323 := memoOk (M := [m276, m322]) ⟨g34.2.2.2.2.2.2.2.2.2.2.2.2.1, g25.1, trivial⟩ m323 2 (by kernel_rfl) (by kernel_rfl)
  have o394 : MemoOk Tryz.prog Sp m394 := memoOk (M := [m393, m391]) ⟨g34.2.2.2.2.2.2.2.2.2.2.2.2.2.2.2.1, g25.2.1, trivial⟩ m394 2 (by kernel_rfl) (by kernel_rfl)
  have o136 : MemoOk Tryz.prog Sp m136 := memoOk (M := [m91, m135, m81, m131, m130, m110]) ⟨g36.2.2.1, g37.2.1, g30.2.2.1, g34.2.2.2.2.2.2.2.2.2.2.2.2.2.2.2.2.2.2.2.1, g34.2.2.1, g35.2.2.2.2.2.2.2.2.2.2.1, trivial⟩ m136 1 (by kernel_rfl) (by kernel_rfl)
  have o145 : MemoOk Tryz.prog Sp m145 := memoOk (M := [m45, m144, m33, m141, m140, m123]) ⟨g36.2.1, g37.2.2.1, g30.2.1, g34.2.2.2.2.2.2.2.2.2.2.2.2.2.2.2.2.2.2.2.2.1, g34.2.2.2.1, g35.2.2.2.2.2.2.2.2.2.2.2.1, trivial⟩ m145 1 (by kernel_rfl) (by kernel_rfl)
  have o290 : MemoOk Tryz.prog Sp m290 := memoOk (M := [m264, m289, m253, m288, m257, m281]) ⟨g36.2.2.2.1, g37.2.2.2.1, g30.2.2.2.1, g35.2.1, g34.2.2.2.2.1, g35.2.2.2.2.2.2.2.2.2.2.2.2.1, trivial⟩ m290 1 (by kernel_rfl) (by kernel_rfl)
  have o439 : MemoOk Tryz.prog Sp m439 := memoOk (M := [m438]) ⟨g35.2.2.2.2.2.2.2.2.2.2.2.2.2.1, trivial⟩ m439 1 (by kernel_rfl) (by kernel_rfl)
  have o429 : MemoOk Tryz.prog Sp m429 := memoOk (M := [m367, m428, m363, m427, m426]) ⟨g4.2.2.2.2.2.2.2.1, g2.2.2.1, g37.1, g1.2.2.2.2.2.2.2.2.2.1, g30.1, trivial⟩ m429 1 (by kernel_rfl) (by kernel_rfl)
  have o449 : MemoOk Tryz.prog Sp m449 := memoOk (M := [m448]) ⟨g36.1, trivial⟩ m449 1 (by kernel_rfl) (by kernel_rfl)
  exact ⟨o272, o277, o294, o321, o323, o394, o136, o145, o290, o439, o429, o449, trivial⟩
theorem g40 : AllOk Tryz.prog Sp [m15, m18, m64, m67, m159, m170, m232, m235, m298, m337, m25, m73, m179, m187, m241] := by
  have o15 : MemoOk Tryz.prog Sp m15 := memoOk (M := [m14, m13, m4, m12, m9]) ⟨g12.1, g32.2.2.2.2.2.2.2.2.2.2.2.2.1, g25.2.2.2.2.2.2.1, g37.2.2.2.2.1, g25.2.2.2.2.2.2.2.1, trivial⟩ m15 1 (by kernel_rfl) (by kernel_rfl)
  have o18 : MemoOk Tryz.prog Sp m18 := memoOk (M := [m14, m13, m4, m12, m9]) ⟨g12.1, g32.2.2.2.2.2.2.2.2.2.2.2.2.1, g25.2.2.2.2.2.2.1, g37.2.2.2.2.1, g25.2.2.2.2.2.2.2.1, trivial⟩ m18 1 (by kernel_rfl) (by kernel_rfl)
  have o64 : MemoOk Tryz.prog Sp m64 := memoOk (M := [m63, m13, m4, m62, m60]) ⟨g14.1, g32.2.2.2.2.2.2.2.2.2.2.2.2.1, g25.2.2.2.2.2.2.1, g37.2.2.2.2.2.1, g25.2.2.2.2.2.2.2.2.1, trivial⟩ m64 1 (by kernel_rfl) (by kernel_rfl)
  have o67 : MemoOk Tryz.prog Sp m67 := memoOk (M := [m63, m13, m4, m62, m60]) ⟨g14.1, g32.2.2.2.2.2.2.2.2.2.2.2.2.1, g25.2.2.2.2.2.2.1, g37.2.2.2.2.2.1, g25.2.2.2.2.2.2.2.2.1, trivial⟩ m67 1 (by kernel_rfl) (by kernel_rfl)
  have o159 : MemoOk Tryz.prog Sp m159 := memoOk (M := [m158, m62, m60]) ⟨g16.1, g37.2.2.2.2.2.1, g25.2.2.2.2.2.2.2.2.1, trivial⟩ m159 1 (by kernel_rfl) (by kernel_rfl)
  have o170 : MemoOk Tryz.prog Sp m170 := memoOk (M := [m169, m12, m9]) ⟨g17.1, g37.2.2.2.2.1, g25.2.2.2.2.2.2.2.1, trivial⟩ m170 1 (by kernel_rfl) (by kernel_rfl)
  have o232 : MemoOk Tryz.prog Sp m232 := memoOk (M := [m231, m13, m4, m230, m226]) ⟨g18.1, g32.2.2.2.2.2.2.2.2.2.2.2.2.1, g25.2.2.2.2.2.2.1, g37.2.2.2.2.2.2.1, g25.2.2.2.2.2.2.2.2.2.1, trivial⟩ m232 1 (by kernel_rfl) (by kernel_rfl)
  have o235 : MemoOk Tryz.prog Sp m235 := memoOk (M := [m231, m13, m4, m230, m226]) ⟨g18.1, g32.2.2.2.2.2.2.2.2.2.2.2.2.1, g25.2.2.2.2.2.2.1, g37.2.2.2.2.2.2.1, g25.2.2.2.2.2.2.2.2.2.1, trivial⟩ m235 1 (by kernel_rfl) (by kernel_rfl)
  have o298 : MemoOk Tryz.prog Sp m298 := memoOk (M := [m297, m230, m226]) ⟨g20.1, g37.2.2.2.2.2.2.1, g25.2.2.2.2.2.2.2.2.2.1, trivial⟩ m298 1 (by kernel_rfl) (by kernel_rfl)
  have o337 : MemoOk Tryz.prog Sp m337 := memoOk (M := [m336, m62, m60, m230, m226]) ⟨g22.1, g37.2.2.2.2.2.1, g25.2.2.2.2.2.2.2.2.1, g37.2.2.2.2.2.2.1, g25.2.2.2.2.2.2.2.2.2.1, trivial⟩ m337 1 (by kernel_rfl) (by kernel_rfl)
  have o25 : MemoOk Tryz.prog Sp m25 := memoOk (M := [m6, m12]) ⟨g25.2.2.1, g37.2.2.2.2.1, trivial⟩ m25 2 (by kernel_rfl) (by kernel_rfl)
  have o73 : MemoOk Tryz.prog Sp m73 := memoOk (M := [m57, m62]) ⟨g25.2.2.2.1, g37.2.2.2.2.2.1, trivial⟩ m73 2 (by kernel_rfl) (by kernel_rfl)
  have o179 : MemoOk Tryz.prog Sp m179 := memoOk (M := [m57, m62]) ⟨g25.2.2.2.1, g37.2.2.2.2.2.1, trivial⟩ m179 2 (by kernel_rfl) (by kernel_rfl)
  have o187 : MemoOk Tryz.prog Sp m187 := memoOk (M := [m6, m12]) ⟨g25.2.2.1, g37.2.2.2.2.1, trivial⟩ m187 2 (by kernel_rfl) (by kernel_rfl)
  have o241 : MemoOk Tryz.prog Sp m241 := memoOk (M := [m229, m230]) ⟨g25.2.2.2.2.2.1, g37.2.2.2.2.2.2.1, trivial⟩ m241 2 (by kernel_rfl) (by kernel_rfl)
  exact ⟨o15, o18, o64, o67, o159, o170, o232, o235, o298, o337, o25, o73, o179, o187, o241, trivial⟩
end Go.Proofs.YtidopoemgmbogaaGreatDoor
