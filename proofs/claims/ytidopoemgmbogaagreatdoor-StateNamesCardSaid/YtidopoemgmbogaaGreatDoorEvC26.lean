/- Calls that are reckoned, each by the kernel. -/
import Derived.Test.YtidopoemgmbogaaGreatDoorEvB0
import Derived.Test.YtidopoemgmbogaaGreatDoorEvB1
import Derived.Test.YtidopoemgmbogaaGreatDoorEvC1
import Derived.Test.YtidopoemgmbogaaGreatDoorEvC2
import Derived.Test.YtidopoemgmbogaaGreatDoorEvC17
import Derived.Test.YtidopoemgmbogaaGreatDoorEvC20
import Derived.Test.YtidopoemgmbogaaGreatDoorEvC21
import Derived.Test.YtidopoemgmbogaaGreatDoorEvC22
import Derived.Test.YtidopoemgmbogaaGreatDoorEvC24
import Derived.Test.YtidopoemgmbogaaGreatDoorEvC25
import Derived.KernelRfl
namespace Go.Proofs.YtidopoemgmbogaaGreatDoor
open Go.Mt
set_option maxRecDepth 100000
theorem g43 : AllOk Tryz.prog Sp [m24, m32, m50, m72, m80, m240, m252, m28, m76, m181, m189, m246, m315, m335, m53, m214, m219] := by
  have o24 : MemoOk Tryz.prog Sp m24 := memoOk (M := [m23, m22]) ⟨g35.2.2.2.2.2.2.2.2.2.2.2.2.2.2.1, g41.2.2.2.2.2.2.2.2.1, trivial⟩ m24 1 (by kernel_rfl) (by kernel_rfl)
  have o32 : MemoOk Tryz.prog Sp m32 := memoOk (M := [m23, m22]) ⟨g35.2.2.2.2.2.2.2.2.2.2.2.2.2.2.1, g41.2.2.2.2.2.2.2.2.1, trivial⟩ m32 1 (by kernel_rfl) (by kernel_rfl)
  have o50 : MemoOk Tryz.prog Sp m50 := memoOk (M := [m49, m48]) ⟨g35.2.2.2.2.2.2.2.2.2.2.2.2.2.2.2.1, g41.2.2.2.2.2.2.2.2.2.1, trivial⟩ m50 1 (by kernel_rfl) (by kernel_rfl)
  have o72 : MemoOk Tryz.prog Sp m72 := memoOk (M := [m71, m70]) ⟨g35.2.2.2.2.2.2.2.2.2.2.2.2.2.2.2.2.1, g41.2.2.2.2.2.2.2.2.2.2.1, trivial⟩ m72 1 (by kernel_rfl) (by kernel_rfl)
  have o80 : MemoOk Tryz.prog Sp m80 := memoOk (M := [m71, m70]) ⟨g35.2.2.2.2.2.2.2.2.2.2.2.2.2.2.2.2.1, g41.2.2.2.2.2.2.2.2.2.2.1, trivial⟩ m80 1 (by kernel_rfl) (by kernel_rfl)
  have o240 : MemoOk Tryz.prog Sp m240 := memoOk (M := [m239, m238]) ⟨g35.2.2.2.2.2.2.2.2.2.2.2.2.2.2.2.2.2.1, g41.2.2.2.2.2.2.2.2.2.2.2.2.2.1, trivial⟩ m240 1 (by kernel_rfl) (by kernel_rfl)
  have o252 : MemoOk Tryz.prog Sp m252 := memoOk (M := [m238]) ⟨g41.2.2.2.2.2.2.2.2.2.2.2.2.2.1, trivial⟩ m252 1 (by kernel_rfl) (by kernel_rfl)
  have o28 : MemoOk Tryz.prog Sp m28 := memoOk (M := [m5, m27, m26, m25]) ⟨g2.2.2.2.2.1, g2.2.2.2.2.2.1, g35.2.2.2.1, g40.2.2.2.2.2.2.2.2.2.2.1, trivial⟩ m28 1 (by kernel_rfl) (by kernel_rfl)
  have o76 : MemoOk Tryz.prog Sp m76 := memoOk (M := [m5, m75, m74, m73]) ⟨g2.2.2.2.2.1, g2.2.2.2.2.2.2.2.1, g35.2.2.2.2.1, g40.2.2.2.2.2.2.2.2.2.2.2.1, trivial⟩ m76 1 (by kernel_rfl) (by kernel_rfl)
  have o181 : MemoOk Tryz.prog Sp m181 := memoOk (M := [m5, m75, m180, m179]) ⟨g2.2.2.2.2.1, g2.2.2.2.2.2.2.2.1, g35.2.2.2.2.2.1, g40.2.2.2.2.2.2.2.2.2.2.2.2.1, trivial⟩ m181 1 (by kernel_rfl) (by kernel_rfl)
  have o189 : MemoOk Tryz.prog Sp m189 := memoOk (M := [m5, m27, m188, m187]) ⟨g2.2.2.2.2.1, g2.2.2.2.2.2.1, g35.2.2.2.2.2.2.1, g40.2.2.2.2.2.2.2.2.2.2.2.2.2.1, trivial⟩ m189 1 (by kernel_rfl) (by kernel_rfl)
  have o246 : MemoOk Tryz.prog Sp m246 := memoOk (M := [m5, m245, m244, m243, m242, m241]) ⟨g2.2.2.2.2.1, g2.2.2.2.2.2.2.2.2.2.2.2.1, g41.2.1, g35.2.2.2.2.2.2.2.1, g41.1, g40.2.2.2.2.2.2.2.2.2.2.2.2.2.2.1, trivial⟩ m246 1 (by kernel_rfl) (by kernel_rfl)
  have o315 : MemoOk Tryz.prog Sp m315 := memoOk (M := [m5, m245, m314, m313, m312, m311]) ⟨g2.2.2.2.2.1, g2.2.2.2.2.2.2.2.2.2.2.2.1, g41.2.2.2.2.1, g35.2.2.2.2.2.2.2.2.1, g41.2.2.2.1, g41.2.2.1, trivial⟩ m315 1 (by kernel_rfl) (by kernel_rfl)
  have o335 : MemoOk Tryz.prog Sp m335 := memoOk (M := [m5, m27, m334, m333]) ⟨g2.2.2.2.2.1, g2.2.2.2.2.2.1, g35.2.2.2.2.2.2.2.2.2.1, g41.2.2.2.2.2.1, trivial⟩ m335 1 (by kernel_rfl) (by kernel_rfl)
  have o53 : MemoOk Tryz.prog Sp m53 := memoOk (M := [m5, m52, m51]) ⟨g2.2.2.2.2.1, g41.2.2.2.2.2.2.2.2.2.2.2.2.2.2.2.2.1, g2.2.2.2.2.2.2.1, trivial⟩ m53 1 (by kernel_rfl) (by kernel_rfl)
  have o214 : MemoOk Tryz.prog Sp m214 := memoOk (M := [m5, m213, m212, m211]) ⟨g2.2.2.2.2.1, g42.2.1, g42.1, g2.2.2.2.2.2.2.2.2.2.1, trivial⟩ m214 1 (by kernel_rfl) (by kernel_rfl)
  have o219 : MemoOk Tryz.prog Sp m219 := memoOk (M := [m5, m218, m217, m211]) ⟨g2.2.2.2.2.1, g42.2.2.2.1, g42.2.2.1, g2.2.2.2.2.2.2.2.2.2.1, trivial⟩ m219 1 (by kernel_rfl) (by kernel_rfl)
  exact ⟨o24, o32, o50, o72, o80, o240, o252, o28, o76, o181, o189, o246, o315, o335, o53, o214, o219, trivial⟩
theorem g44 : AllOk Tryz.prog Sp [m250, m345, m378, m117, m125, m204, m207, m282, m286, m307, m325, m328, m398, m19] := by
  have o250 : MemoOk Tryz.prog Sp m250 := memoOk (M := [m5, m249, m248, m211]) ⟨g2.2.2.2.2.1, g42.2.2.2.2.2.1, g42.2.2.2.2.1, g2.2.2.2.2.2.2.2.2.2.1, trivial⟩ m250 1 (by kernel_rfl) (by kernel_rfl)
  have o345 : MemoOk Tryz.prog Sp m345 := memoOk (M := [m211, m344, m343, m342, m341, m340, m268]) ⟨g2.2.2.2.2.2.2.2.2.2.1, g42.2.2.2.2.2.2.2.2.2.2.1, g42.2.2.2.2.2.2.2.2.2.1, g42.2.2.2.2.2.2.2.2.1, g42.2.2.2.2.2.2.2.1, g42.2.2.2.2.2.2.1, g2.2.2.2.2.2.2.2.2.2.2.2.2.1, trivial⟩ m345 1 (by kernel_rfl) (by kernel_rfl)
  have o378 : MemoOk Tryz.prog Sp m378 := memoOk (M := [m211, m377, m376, m375, m248, m374, m268]) ⟨g2.2.2.2.2.2.2.2.2.2.1, g42.2.2.2.2.2.2.2.2.2.2.2.2.2.2.1, g42.2.2.2.2.2.2.2.2.2.2.2.2.2.1, g42.2.2.2.2.2.2.2.2.2.2.2.2.1, g42.2.2.2.2.1, g42.2.2.2.2.2.2.2.2.2.2.2.1, g2.2.2.2.2.2.2.2.2.2.2.2.2.1, trivial⟩ m378 1 (by kernel_rfl) (by kernel_rfl)
  have o117 : MemoOk Tryz.prog Sp m117 := memoOk (M := [m116, m115, m112, m110, m99]) ⟨g41.2.2.2.2.2.2.1, g34.2.2.2.2.2.2.2.2.2.2.2.2.2.2.2.2.1, g25.2.2.2.2.2.2.2.2.2.2.2.2.2.2.1, g35.2.2.2.2.2.2.2.2.2.2.1, g31.2.2.1, trivial⟩ m117 1 (by kernel_rfl) (by kernel_rfl)
  have o125 : MemoOk Tryz.prog Sp m125 := memoOk (M := [m124, m115, m112, m123, m103]) ⟨g41.2.2.2.2.2.2.2.1, g34.2.2.2.2.2.2.2.2.2.2.2.2.2.2.2.2.1, g25.2.2.2.2.2.2.2.2.2.2.2.2.2.2.1, g35.2.2.2.2.2.2.2.2.2.2.2.1, g31.2.2.2.1, trivial⟩ m125 1 (by kernel_rfl) (by kernel_rfl)
  have o204 : MemoOk Tryz.prog Sp m204 := memoOk (M := [m116, m115, m112, m157, m195]) ⟨g41.2.2.2.2.2.2.1, g34.2.2.2.2.2.2.2.2.2.2.2.2.2.2.2.2.1, g25.2.2.2.2.2.2.2.2.2.2.2.2.2.2.1, g4.2.2.2.2.2.2.2.2.2.1, g31.2.2.2.2.2.2.1, trivial⟩ m204 1 (by kernel_rfl) (by kernel_rfl)
  have o207 : MemoOk Tryz.prog Sp m207 := memoOk (M := [m124, m115, m112, m168, m199]) ⟨g41.2.2.2.2.2.2.2.1, g34.2.2.2.2.2.2.2.2.2.2.2.2.2.2.2.2.1, g25.2.2.2.2.2.2.2.2.2.2.2.2.2.2.1, g4.2.2.2.2.2.2.2.2.2.2.1, g31.2.2.2.2.2.2.2.1, trivial⟩ m207 1 (by kernel_rfl) (by kernel_rfl)
  have o282 : MemoOk Tryz.prog Sp m282 := memoOk (M := [m116, m115, m112, m281, m195]) ⟨g41.2.2.2.2.2.2.1, g34.2.2.2.2.2.2.2.2.2.2.2.2.2.2.2.2.1, g25.2.2.2.2.2.2.2.2.2.2.2.2.2.2.1, g35.2.2.2.2.2.2.2.2.2.2.2.2.1, g31.2.2.2.2.2.2.1, trivial⟩ m282 1 (by kernel_rfl) (by kernel_rfl)
  have o286 : MemoOk Tryz.prog Sp m286 := memoOk (M := [m124, m115, m112, m168, m275]) ⟨g41.2.2.2.2.2.2.2.1, g34.2.2.2.2.2.2.2.2.2.2.2.2.2.2.2.2.1, g25.2.2.2.2.2.2.2.2.2.2.2.2.2.2.1, g4.2.2.2.2.2.2.2.2.2.2.1, g32.1, trivial⟩ m286 1 (by kernel_rfl) (by kernel_rfl)
  have o307 : MemoOk Tryz.prog Sp m307 := memoOk (M := [m124, m115, m112, m168, m275]) ⟨g41.2.2.2.2.2.2.2.1, g34.2.2.2.2.2.2.2.2.2.2.2.2.2.2.2.2.1, g25.2.2.2.2.2.2.2.2.2.2.2.2.2.2.1, g4.2.2.2.2.2.2.2.2.2.2.1, g32.1, trivial⟩ m307 1 (by kernel_rfl) (by kernel_rfl)
  have o325 : MemoOk Tryz.prog Sp m325 := memoOk (M := [m116, m115, m112, m157, m319]) ⟨g41.2.2.2.2.2.2.1, g34.2.2.2.2.2.2.2.2.2.2.2.2.2.2.2.2.1, g25.2.2.2.2.2.2.2.2.2.2.2.2.2.2.1, g4.2.2.2.2.2.2.2.2.2.1, g32.2.2.1, trivial⟩ m325 1 (by kernel_rfl) (by kernel_rfl)
  have o328 : MemoOk Tryz.prog Sp m328 := memoOk (M := [m124, m115, m112, m168, m275]) ⟨g41.2.2.2.2.2.2.2.1, g34.2.2.2.2.2.2.2.2.2.2.2.2.2.2.2.2.1, g25.2.2.2.2.2.2.2.2.2.2.2.2.2.2.1, g4.2.2.2.2.2.2.2.2.2.2.1, g32.1, trivial⟩ m328 1 (by kernel_rfl) (by kernel_rfl)
  have o398 : MemoOk Tryz.prog Sp m398 := memoOk (M := [m116, m115, m112, m157, m392]) ⟨g41.2.2.2.2.2.2.1, g34.2.2.2.2.2.2.2.2.2.2.2.2.2.2.2.2.1, g25.2.2.2.2.2.2.2.2.2.2.2.2.2.2.1, g4.2.2.2.2.2.2.2.2.2.1, g32.2.2.2.1, trivial⟩ m398 1 (by kernel_rfl) (by kernel_rfl)
  have o19 : MemoOk Tryz.prog Sp m19 := memoOk (M := [m18, m17]) ⟨g40.2.1, g32.2.2.2.2.2.2.2.2.2.2.2.2.2.2.1, trivial⟩ m19 1 (by kernel_rfl) (by kernel_rfl)
  exact ⟨o250, o345, o378, o117, o125, o204, o207, o282, o286, o307, o325, o328, o398, o19, trivial⟩
end Go.Proofs.YtidopoemgmbogaaGreatDoor
