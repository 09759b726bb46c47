/- Calls that are reckoned, each by the kernel. -/
import Derived.Test.YtidopoemgmbogaaGreatDoorEvB0
import Derived.Test.YtidopoemgmbogaaGreatDoorEvB1
import Derived.Test.YtidopoemgmbogaaGreatDoorEvC0
import Derived.Test.YtidopoemgmbogaaGreatDoorEvC1
import Derived.Test.YtidopoemgmbogaaGreatDoorEvC2
import Derived.Test.YtidopoemgmbogaaGreatDoorEvC16
import Derived.Test.YtidopoemgmbogaaGreatDoorEvC17
import Derived.Test.YtidopoemgmbogaaGreatDoorEvC18
import Derived.Test.YtidopoemgmbogaaGreatDoorEvC19
import Derived.Test.YtidopoemgmbogaaGreatDoorEvC20
import Derived.Test.YtidopoemgmbogaaGreatDoorEvC21
import Derived.Test.YtidopoemgmbogaaGreatDoorEvC22
import Derived.Test.YtidopoemgmbogaaGreatDoorEvC23
import Derived.Test.YtidopoemgmbogaaGreatDoorEvC24
import Derived.Test.YtidopoemgmbogaaGreatDoorEvC25
import Derived.Test.YtidopoemgmbogaaGreatDoorEvC26
import Derived.Test.YtidopoemgmbogaaGreatDoorEvC27
import Derived.KernelRfl
namespace Go.Proofs.YtidopoemgmbogaaGreatDoor
open Go.Mt
set_option maxRecDepth 100000
theorem g47 : AllOk Tryz.prog Sp [m174, m302, m42, m89, m183, m191, m261, m316, m29, m77, m247, m389, m364, m184, m192, m317] := by
  have o174 : MemoOk Tryz.prog Sp m174 := memoOk (M := [m173, m170]) ⟨g45.2.2.1, g40.2.2.2.2.2.1, trivial⟩ m174 1 (by kernel_rfl) (by kernel_rfl)
  have o302 : MemoOk Tryz.prog Sp m302 := memoOk (M := [m301, m298]) ⟨g45.2.2.2.2.1, g40.2.2.2.2.2.2.2.2.1, trivial⟩ m302 1 (by kernel_rfl) (by kernel_rfl)
  have o42 : MemoOk Tryz.prog Sp m42 := memoOk (M := [m41, m28, m35, m34, m40]) ⟨g37.2.2.2.2.2.2.2.1, g43.2.2.2.2.2.2.2.1, g4.2.2.2.2.2.2.2.2.2.2.2.2.1, g5.2.2.2.2.1, g1.2.2.2.2.2.2.2.2.2.2.1, trivial⟩ m42 1 (by kernel_rfl) (by kernel_rfl)
  have o89 : MemoOk Tryz.prog Sp m89 := memoOk (M := [m88, m76, m35, m82, m87]) ⟨g37.2.2.2.2.2.2.2.2.1, g43.2.2.2.2.2.2.2.2.1, g4.2.2.2.2.2.2.2.2.2.2.2.2.1, g5.2.2.2.2.2.1, g1.2.2.2.2.2.2.2.2.2.2.2.1, trivial⟩ m89 1 (by kernel_rfl) (by kernel_rfl)
  have o183 : MemoOk Tryz.prog Sp m183 := memoOk (M := [m182, m181, m106, m127, m132]) ⟨g37.2.2.2.2.2.2.2.2.2.1, g43.2.2.2.2.2.2.2.2.2.1, g4.2.2.2.2.2.2.2.2.2.2.2.2.2.1, g5.2.2.2.2.2.2.1, g1.2.2.2.2.2.2.2.2.2.2.2.2.2.1, trivial⟩ m183 1 (by kernel_rfl) (by kernel_rfl)
  have o191 : MemoOk Tryz.prog Sp m191 := memoOk (M := [m190, m189, m119, m137, m142]) ⟨g37.2.2.2.2.2.2.2.2.2.2.1, g43.2.2.2.2.2.2.2.2.2.2.1, g4.2.2.2.2.2.2.2.2.2.2.2.2.2.2.1, g5.2.2.2.2.2.2.2.1, g1.2.2.2.2.2.2.2.2.2.2.2.2.2.2.1, trivial⟩ m191 1 (by kernel_rfl) (by kernel_rfl)
  have o261 : MemoOk Tryz.prog Sp m261 := memoOk (M := [m260, m246, m202, m254, m259]) ⟨g38.1, g43.2.2.2.2.2.2.2.2.2.2.2.1, g5.2.1, g5.2.2.2.2.2.2.2.2.1, g1.2.2.2.2.2.2.2.2.2.2.2.2.2.2.2.2.1, trivial⟩ m261 1 (by kernel_rfl) (by kernel_rfl)
  have o316 : MemoOk Tryz.prog Sp m316 := memoOk (M := [m260, m315, m202, m254, m259]) ⟨g38.1, g43.2.2.2.2.2.2.2.2.2.2.2.2.1, g5.2.1, g5.2.2.2.2.2.2.2.2.1, g1.2.2.2.2.2.2.2.2.2.2.2.2.2.2.2.2.1, trivial⟩ m316 1 (by kernel_rfl) (by kernel_rfl)
  have o29 : MemoOk Tryz.prog Sp m29 := memoOk (M := [m28]) ⟨g43.2.2.2.2.2.2.2.1, trivial⟩ m29 1 (by kernel_rfl) (by kernel_rfl)
  have o77 : MemoOk Tryz.prog Sp m77 := memoOk (M := [m76]) ⟨g43.2.2.2.2.2.2.2.2.1, trivial⟩ m77 1 (by kernel_rfl) (by kernel_rfl)
  have o247 : MemoOk Tryz.prog Sp m247 := memoOk (M := [m246]) ⟨g43.2.2.2.2.2.2.2.2.2.2.2.1, trivial⟩ m247 1 (by kernel_rfl) (by kernel_rfl)
  have o389 : MemoOk Tryz.prog Sp m389 := memoOk (M := [m388, m383]) ⟨g46.2.2.1, g38.2.2.2.2.2.2.1, trivial⟩ m389 1 (by kernel_rfl) (by kernel_rfl)
  have o364 : MemoOk Tryz.prog Sp m364 := memoOk (M := [m363, m360, m352, m357, m356, m350, m351]) ⟨g37.1, g41.2.2.2.2.2.2.2.2.2.2.2.2.2.2.2.1, g30.2.2.2.2.1, g35.2.2.1, g34.2.2.2.2.2.1, g1.2.2.2.2.1, g46.2.2.2.2.2.2.2.2.2.2.2.2.2.1, trivial⟩ m364 2 (by kernel_rfl) (by kernel_rfl)
  have o184 : MemoOk Tryz.prog Sp m184 := memoOk (M := [m183, m178, m133, m60, m177, m163]) ⟨o183, g41.2.2.2.2.2.2.2.2.2.2.2.1, g2.2.2.2.2.2.2.2.2.1, g25.2.2.2.2.2.2.2.2.1, g33.2.2.2.2.2.2.2.2.2.2.2.2.2.1, g46.2.2.2.2.2.2.2.2.2.2.2.2.2.2.1, trivial⟩ m184 1 (by kernel_rfl) (by kernel_rfl)
  have o192 : MemoOk Tryz.prog Sp m192 := memoOk (M := [m191, m186, m51, m9, m185, m174]) ⟨o191, g41.2.2.2.2.2.2.2.2.2.2.2.2.1, g2.2.2.2.2.2.2.1, g25.2.2.2.2.2.2.2.1, g33.2.2.2.2.2.2.2.2.2.2.2.2.2.2.1, o174, trivial⟩ m192 1 (by kernel_rfl) (by kernel_rfl)
  have o317 : MemoOk Tryz.prog Sp m317 := memoOk (M := [m316, m310, m268, m226, m309, m302]) ⟨o316, g41.2.2.2.2.2.2.2.2.2.2.2.2.2.2.1, g2.2.2.2.2.2.2.2.2.2.2.2.2.1, g25.2.2.2.2.2.2.2.2.2.1, g33.2.2.2.2.2.2.2.2.2.2.2.2.2.2.2.2.1, o302, trivial⟩ m317 1 (by kernel_rfl) (by kernel_rfl)
  exact ⟨o174, o302, o42, o89, o183, o191, o261, o316, o29, o77, o247, o389, o364, o184, o192, o317, trivial⟩
theorem g48 : AllOk Tryz.prog Sp [m31, m54, m79, m251, m164, m175, m303, m365, m402, m46, m55, m92, m265, m165, m176] := by
  have o31 : MemoOk Tryz.prog Sp m31 := memoOk (M := [m4, m9, m30, m29, m24, m21, m20]) ⟨g25.2.2.2.2.2.2.1, g25.2.2.2.2.2.2.2.1, g25.2.2.2.2.2.2.2.2.2.2.2.2.2.2.2.1, g47.2.2.2.2.2.2.2.2.1, g43.1, g4.2.1, g45.2.2.2.2.2.2.2.2.2.2.2.2.1, trivial⟩ m31 1 (by kernel_rfl) (by kernel_rfl)
  have o54 : MemoOk Tryz.prog Sp m54 := memoOk (M := [m53, m29, m50, m21, m20]) ⟨g43.2.2.2.2.2.2.2.2.2.2.2.2.2.2.1, g47.2.2.2.2.2.2.2.2.1, g43.2.2.1, g4.2.1, g45.2.2.2.2.2.2.2.2.2.2.2.2.1, trivial⟩ m54 1 (by kernel_rfl) (by kernel_rfl)
  have o79 : MemoOk Tryz.prog Sp m79 := memoOk (M := [m4, m60, m78, m77, m72, m21, m69]) ⟨g25.2.2.2.2.2.2.1, g25.2.2.2.2.2.2.2.2.1, g25.2.2.2.2.2.2.2.2.2.2.2.2.2.2.2.2.1, g47.2.2.2.2.2.2.2.2.2.1, g43.2.2.2.1, g4.2.1, g46.1, trivial⟩ m79 1 (by kernel_rfl) (by kernel_rfl)
  have o251 : MemoOk Tryz.prog Sp m251 := memoOk (M := [m4, m226, m250, m247, m240, m21, m237]) ⟨g25.2.2.2.2.2.2.1, g25.2.2.2.2.2.2.2.2.2.1, g44.1, g47.2.2.2.2.2.2.2.2.2.2.1, g43.2.2.2.2.2.1, g4.2.1, g46.2.1, trivial⟩ m251 1 (by kernel_rfl) (by kernel_rfl)
  have o164 : MemoOk Tryz.prog Sp m164 := memoOk (M := [m163, m162, m159, m157, m147]) ⟨g46.2.2.2.2.2.2.2.2.2.2.2.2.2.2.1, g45.2.1, g40.2.2.2.2.1, g4.2.2.2.2.2.2.2.2.2.1, g31.2.2.2.2.1, trivial⟩ m164 1 (by kernel_rfl) (by kernel_rfl)
  have o175 : MemoOk Tryz.prog Sp m175 := memoOk (M := [m174, m173, m170, m168, m151]) ⟨g47.1, g45.2.2.1, g40.2.2.2.2.2.1, g4.2.2.2.2.2.2.2.2.2.2.1, g31.2.2.2.2.2.1, trivial⟩ m175 1 (by kernel_rfl) (by kernel_rfl)
  have o303 : MemoOk Tryz.prog Sp m303 := memoOk (M := [m302, m301, m298, m157, m292]) ⟨g47.2.1, g45.2.2.2.2.1, g40.2.2.2.2.2.2.2.2.1, g4.2.2.2.2.2.2.2.2.2.1, g32.2.1, trivial⟩ m303 1 (by kernel_rfl) (by kernel_rfl)
  have o365 : MemoOk Tryz.prog Sp m365 := memoOk (M := [m364, m349]) ⟨g47.2.2.2.2.2.2.2.2.2.2.2.2.1, g38.2.2.2.2.2.1, trivial⟩ m365 1 (by kernel_rfl) (by kernel_rfl)
  have o402 : MemoOk Tryz.prog Sp m402 := memoOk (M := [m401, m399, m395, m394, m389, m382]) ⟨g33.2.2.2.2.2.2.2.2.2.2.1, g46.2.2.2.2.2.2.2.2.2.2.2.2.1, g0.2.2.2.2.2.2.2.1, g39.2.2.2.2.2.1, g47.2.2.2.2.2.2.2.2.2.2.2.1, g23.2.2.2.2.2.2.2.2.2.2.2.2.2.2.2.1, trivial⟩ m402 1 (by kernel_rfl) (by kernel_rfl)
  have o46 : MemoOk Tryz.prog Sp m46 := memoOk (M := [m45, m42, m33, m39, m38, m32, m31]) ⟨g36.2.1, g47.2.2.1, g30.2.1, g34.2.2.2.2.2.2.2.2.2.2.2.2.2.2.2.2.2.1, g34.1, g43.2.1, o31, trivial⟩ m46 2 (by kernel_rfl) (by kernel_rfl)
  have o55 : MemoOk Tryz.prog Sp m55 := memoOk (M := [m54]) ⟨o54, trivial⟩ m55 2 (by kernel_rfl) (by kernel_rfl)
  have o92 : MemoOk Tryz.prog Sp m92 := memoOk (M := [m91, m89, m81, m86, m85, m80, m79]) ⟨g36.2.2.1, g47.2.2.2.1, g30.2.2.1, g34.2.2.2.2.2.2.2.2.2.2.2.2.2.2.2.2.2.2.1, g34.2.1, g43.2.2.2.2.1, o79, trivial⟩ m92 2 (by kernel_rfl) (by kernel_rfl)
  have o265 : MemoOk Tryz.prog Sp m265 := memoOk (M := [m264, m261, m253, m258, m257, m252, m251]) ⟨g36.2.2.2.1, g47.2.2.2.2.2.2.1, g30.2.2.2.1, g35.1, g34.2.2.2.2.1, g43.2.2.2.2.2.2.1, o251, trivial⟩ m265 2 (by kernel_rfl) (by kernel_rfl)
  have o165 : MemoOk Tryz.prog Sp m165 := memoOk (M := [m164, m156, m154, m147]) ⟨o164, g26.2.2.2.2.1, g4.2.2.2.2.2.2.2.2.2.2.2.2.2.2.2.1, g31.2.2.2.2.1, trivial⟩ m165 1 (by kernel_rfl) (by kernel_rfl)
  have o176 : MemoOk Tryz.prog Sp m176 := memoOk (M := [m175, m167, m166, m151]) ⟨o175, g27.1, g5.1, g31.2.2.2.2.2.1, trivial⟩ m176 1 (by kernel_rfl) (by kernel_rfl)
  exact ⟨o31, o54, o79, o251, o164, o175, o303, o365, o402, o46, o55, o92, o265, o165, o176, trivial⟩
end Go.Proofs.YtidopoemgmbogaaGreatDoor
