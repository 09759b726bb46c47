/- Calls that are reckoned, each by the kernel. -/
import Derived.Test.YtidopoemgmbogaaGreatDoorEvB0
import Derived.Test.YtidopoemgmbogaaGreatDoorEvB1
import Derived.Test.YtidopoemgmbogaaGreatDoorEvC0
import Derived.Test.YtidopoemgmbogaaGreatDoorEvC1
import Derived.Test.YtidopoemgmbogaaGreatDoorEvC2
import Derived.Test.YtidopoemgmbogaaGreatDoorEvC16
import Derived.Test.YtidopoemgmbogaaGreatDoorEvC17
import Derived.Test.YtidopoemgmbogaaGreatDoorEvC18
import Derived.Test.YtidopoemgmbogaaGreatDoorEvC19
import Derived.Test.YtidopoemgmbogaaGreatDoorEvC20
import Derived.Test.YtidopoemgmbogaaGreatDoorEvC21
import Derived.Test.YtidopoemgmbogaaGreatDoorEvC23
import Derived.Test.YtidopoemgmbogaaGreatDoorEvC24
import Derived.Test.YtidopoemgmbogaaGreatDoorEvC25
import Derived.Test.YtidopoemgmbogaaGreatDoorEvC26
import Derived.KernelRfl
namespace Go.Proofs.YtidopoemgmbogaaGreatDoor
open Go.Mt
set_option maxRecDepth 100000
theorem g45 : AllOk Tryz.prog Sp [m68, m162, m173, m236, m301, m338, m96, m216, m220, m347, m379, m457, m20] := by
  have o68 : MemoOk Tryz.prog Sp m68 := memoOk (M := [m67, m66]) ⟨g40.2.2.2.1, g32.2.2.2.2.2.2.2.2.2.2.2.2.2.2.2.1, trivial⟩ m68 1 (by kernel_rfl) (by kernel_rfl)
  have o162 : MemoOk Tryz.prog Sp m162 := memoOk (M := [m159, m161]) ⟨g40.2.2.2.2.1, g32.2.2.2.2.2.2.2.2.2.2.2.2.2.2.2.2.2.1, trivial⟩ m162 1 (by kernel_rfl) (by kernel_rfl)
  have o173 : MemoOk Tryz.prog Sp m173 := memoOk (M := [m170, m172]) ⟨g40.2.2.2.2.2.1, g32.2.2.2.2.2.2.2.2.2.2.2.2.2.2.2.2.2.2.1, trivial⟩ m173 1 (by kernel_rfl) (by kernel_rfl)
  have o236 : MemoOk Tryz.prog Sp m236 := memoOk (M := [m235, m234]) ⟨g40.2.2.2.2.2.2.2.1, g33.1, trivial⟩ m236 1 (by kernel_rfl) (by kernel_rfl)
  have o301 : MemoOk Tryz.prog Sp m301 := memoOk (M := [m298, m300]) ⟨g40.2.2.2.2.2.2.2.2.1, g33.2.1, trivial⟩ m301 1 (by kernel_rfl) (by kernel_rfl)
  have o338 : MemoOk Tryz.prog Sp m338 := memoOk (M := [m337, m335, m315, m332]) ⟨g40.2.2.2.2.2.2.2.2.2.1, g43.2.2.2.2.2.2.2.2.2.2.2.2.2.1, g43.2.2.2.2.2.2.2.2.2.2.2.2.1, g24.2.2.2.1, trivial⟩ m338 1 (by kernel_rfl) (by kernel_rfl)
  have o96 : MemoOk Tryz.prog Sp m96 := memoOk (M := [m95, m51, m21, m53, m94]) ⟨g30.2.2.2.2.2.2.2.2.2.2.2.2.1, g2.2.2.2.2.2.2.1, g4.2.1, g43.2.2.2.2.2.2.2.2.2.2.2.2.2.2.1, g4.2.2.2.2.1, trivial⟩ m96 1 (by kernel_rfl) (by kernel_rfl)
  have o216 : MemoOk Tryz.prog Sp m216 := memoOk (M := [m215, m211, m21, m214, m210]) ⟨g31.1, g2.2.2.2.2.2.2.2.2.2.1, g4.2.1, g43.2.2.2.2.2.2.2.2.2.2.2.2.2.2.2.1, g4.2.2.2.2.2.1, trivial⟩ m216 1 (by kernel_rfl) (by kernel_rfl)
  have o220 : MemoOk Tryz.prog Sp m220 := memoOk (M := [m215, m211, m21, m219, m210]) ⟨g31.1, g2.2.2.2.2.2.2.2.2.2.1, g4.2.1, g43.2.2.2.2.2.2.2.2.2.2.2.2.2.2.2.2.1, g4.2.2.2.2.2.1, trivial⟩ m220 1 (by kernel_rfl) (by kernel_rfl)
  have o347 : MemoOk Tryz.prog Sp m347 := memoOk (M := [m346, m268, m21, m345, m339]) ⟨g31.2.1, g2.2.2.2.2.2.2.2.2.2.2.2.2.1, g4.2.1, g44.2.1, g4.2.2.2.2.2.2.1, trivial⟩ m347 1 (by kernel_rfl) (by kernel_rfl)
  have o379 : MemoOk Tryz.prog Sp m379 := memoOk (M := [m346, m268, m21, m378, m339]) ⟨g31.2.1, g2.2.2.2.2.2.2.2.2.2.2.2.2.1, g4.2.1, g44.2.2.1, g4.2.2.2.2.2.2.1, trivial⟩ m379 1 (by kernel_rfl) (by kernel_rfl)
  have o457 : MemoOk Tryz.prog Sp m457 := memoOk (M := [m456, m455, m454, m453, m452, m451, m450, m443, m442, m441, m439, m436, m434, m432, m431, m429]) ⟨g1.1, g24.2.2.2.2.2.2.2.2.2.1, g0.2.2.2.2.2.2.2.2.2.2.2.2.2.2.2.1, g0.2.2.2.2.2.2.2.2.2.2.2.2.2.2.1, g0.2.2.2.2.2.2.2.2.2.2.2.2.2.1, g24.2.2.2.2.2.2.2.2.1, g42.2.2.2.2.2.2.2.2.2.2.2.2.2.2.2.1, g24.2.2.2.2.2.2.2.1, g24.2.2.2.2.2.2.1, g24.2.2.2.2.2.1, g39.2.2.2.2.2.2.2.2.2.1, g33.2.2.2.2.2.2.2.2.2.1, g33.2.2.2.2.2.2.2.2.1, g0.2.2.2.2.2.2.2.2.2.1, g24.2.2.2.2.1, g39.2.2.2.2.2.2.2.2.2.2.1, trivial⟩ m457 1 (by kernel_rfl) (by kernel_rfl)
  have o20 : MemoOk Tryz.prog Sp m20 := memoOk (M := [m19, m15, m5]) ⟨g44.2.2.2.2.2.2.2.2.2.2.2.2.2.1, g40.1, g2.2.2.2.2.1, trivial⟩ m20 1 (by kernel_rfl) (by kernel_rfl)
  exact ⟨o68, o162, o173, o236, o301, o338, o96, o216, o220, o347, o379, o457, o20, trivial⟩
theorem g46 : AllOk Tryz.prog Sp [m69, m237, m388, m118, m126, m205, m208, m283, m287, m308, m326, m329, m399, m351, m163] := by
  have o69 : MemoOk Tryz.prog Sp m69 := memoOk (M := [m68, m64, m5]) ⟨g45.1, g40.2.2.1, g2.2.2.2.2.1, trivial⟩ m69 1 (by kernel_rfl) (by kernel_rfl)
  have o237 : MemoOk Tryz.prog Sp m237 := memoOk (M := [m236, m232, m211]) ⟨g45.2.2.2.1, g40.2.2.2.2.2.2.1, g2.2.2.2.2.2.2.2.2.2.1, trivial⟩ m237 1 (by kernel_rfl) (by kernel_rfl)
  have o388 : MemoOk Tryz.prog Sp m388 := memoOk (M := [m387]) ⟨g42.2.2.2.2.2.2.2.2.2.2.2.2.2.2.2.2.1, trivial⟩ m388 2 (by kernel_rfl) (by kernel_rfl)
  have o118 : MemoOk Tryz.prog Sp m118 := memoOk (M := [m117, m109, m106, m99]) ⟨g44.2.2.2.1, g26.2.2.1, g4.2.2.2.2.2.2.2.2.2.2.2.2.2.1, g31.2.2.1, trivial⟩ m118 1 (by kernel_rfl) (by kernel_rfl)
  have o126 : MemoOk Tryz.prog Sp m126 := memoOk (M := [m125, m122, m119, m103]) ⟨g44.2.2.2.2.1, g26.2.2.2.1, g4.2.2.2.2.2.2.2.2.2.2.2.2.2.2.1, g31.2.2.2.1, trivial⟩ m126 1 (by kernel_rfl) (by kernel_rfl)
  have o205 : MemoOk Tryz.prog Sp m205 := memoOk (M := [m204, m203, m202, m195]) ⟨g44.2.2.2.2.2.1, g27.2.1, g5.2.1, g31.2.2.2.2.2.2.1, trivial⟩ m205 1 (by kernel_rfl) (by kernel_rfl)
  have o208 : MemoOk Tryz.prog Sp m208 := memoOk (M := [m207, m206, m202, m199]) ⟨g44.2.2.2.2.2.2.1, g27.2.2.1, g5.2.1, g31.2.2.2.2.2.2.2.1, trivial⟩ m208 1 (by kernel_rfl) (by kernel_rfl)
  have o283 : MemoOk Tryz.prog Sp m283 := memoOk (M := [m282, m280, m202, m195]) ⟨g44.2.2.2.2.2.2.2.1, g28.1, g5.2.1, g31.2.2.2.2.2.2.1, trivial⟩ m283 1 (by kernel_rfl) (by kernel_rfl)
  have o287 : MemoOk Tryz.prog Sp m287 := memoOk (M := [m286, m285, m284, m275]) ⟨g44.2.2.2.2.2.2.2.2.1, g28.2.1, g5.2.2.1, g32.1, trivial⟩ m287 1 (by kernel_rfl) (by kernel_rfl)
  have o308 : MemoOk Tryz.prog Sp m308 := memoOk (M := [m307, m306, m305, m275]) ⟨g44.2.2.2.2.2.2.2.2.2.1, g29.1, g5.2.2.2.1, g32.1, trivial⟩ m308 1 (by kernel_rfl) (by kernel_rfl)
  have o326 : MemoOk Tryz.prog Sp m326 := memoOk (M := [m325, m324, m305, m319]) ⟨g44.2.2.2.2.2.2.2.2.2.2.1, g29.2.1, g5.2.2.2.1, g32.2.2.1, trivial⟩ m326 1 (by kernel_rfl) (by kernel_rfl)
  have o329 : MemoOk Tryz.prog Sp m329 := memoOk (M := [m328, m327, m305, m275]) ⟨g44.2.2.2.2.2.2.2.2.2.2.2.1, g29.2.2.1, g5.2.2.2.1, g32.1, trivial⟩ m329 1 (by kernel_rfl) (by kernel_rfl)
  have o399 : MemoOk Tryz.prog Sp m399 := memoOk (M := [m398, m397, m35, m392]) ⟨g44.2.2.2.2.2.2.2.2.2.2.2.2.1, g29.2.2.2.1, g4.2.2.2.2.2.2.2.2.2.2.2.2.1, g32.2.2.2.1, trivial⟩ m399 1 (by kernel_rfl) (by kernel_rfl)
  have o351 : MemoOk Tryz.prog Sp m351 := memoOk (M := [m345, m350, m21, m349]) ⟨g44.2.1, g1.2.2.2.2.1, g4.2.1, g38.2.2.2.2.2.1, trivial⟩ m351 1 (by kernel_rfl) (by kernel_rfl)
  have o163 : MemoOk Tryz.prog Sp m163 := memoOk (M := [m162, m159]) ⟨g45.2.1, g40.2.2.2.2.1, trivial⟩ m163 1 (by kernel_rfl) (by kernel_rfl)
  exact ⟨o69, o237, o388, o118, o126, o205, o208, o283, o287, o308, o326, o329, o399, o351, o163, trivial⟩
end Go.Proofs.YtidopoemgmbogaaGreatDoor
