/- Calls that are reckoned, each by the kernel. -/
import Derived.Test.YtidopoemgmbogaaGreatDoorEvB0
import Derived.Test.YtidopoemgmbogaaGreatDoorEvB1
import Derived.Test.YtidopoemgmbogaaGreatDoorEvC0
import Derived.Test.YtidopoemgmbogaaGreatDoorEvC1
import Derived.Test.YtidopoemgmbogaaGreatDoorEvC2
import Derived.Test.YtidopoemgmbogaaGreatDoorEvC12
import Derived.Test.YtidopoemgmbogaaGreatDoorEvC14
import Derived.Test.YtidopoemgmbogaaGreatDoorEvC16
import Derived.Test.YtidopoemgmbogaaGreatDoorEvC17
import Derived.Test.YtidopoemgmbogaaGreatDoorEvC19
import Derived.Test.YtidopoemgmbogaaGreatDoorEvC20
import Derived.KernelRfl
namespace Go.Proofs.YtidopoemgmbogaaGreatDoor
open Go.Mt
set_option maxRecDepth 100000
theorem g33 : AllOk Tryz.prog Sp [m234, m300, m270, m370, m373, m7, m58, m223, m434, m436, m401, m146, m150, m177, m185, m291, m309] := by
  have o234 : MemoOk Tryz.prog Sp m234 := memoOk (M := [m233]) ⟨g19.1, trivial⟩ m234 2 (by kernel_rfl) (by kernel_rfl)
  have o300 : MemoOk Tryz.prog Sp m300 := memoOk (M := [m299]) ⟨g21.1, trivial⟩ m300 2 (by kernel_rfl) (by kernel_rfl)
  have o270 : MemoOk Tryz.prog Sp m270 := memoOk (M := [m269, m267]) ⟨g25.2.2.2.2.2.2.2.2.2.2.2.2.2.1, g24.2.2.1, trivial⟩ m270 1 (by kernel_rfl) (by kernel_rfl)
  have o370 : MemoOk Tryz.prog Sp m370 := memoOk (M := [m369, m5, m21, m368, m367, m366]) ⟨g4.2.2.2.1, g2.2.2.2.2.1, g4.2.1, g26.1, g4.2.2.2.2.2.2.2.1, g0.2.2.2.2.1, trivial⟩ m370 1 (by kernel_rfl) (by kernel_rfl)
  have o373 : MemoOk Tryz.prog Sp m373 := memoOk (M := [m369, m5, m21, m368, m367]) ⟨g4.2.2.2.1, g2.2.2.2.2.1, g4.2.1, g26.1, g4.2.2.2.2.2.2.2.1, trivial⟩ m373 1 (by kernel_rfl) (by kernel_rfl)
  have o7 : MemoOk Tryz.prog Sp m7 := memoOk (M := [m6]) ⟨g25.2.2.1, trivial⟩ m7 1 (by kernel_rfl) (by kernel_rfl)
  have o58 : MemoOk Tryz.prog Sp m58 := memoOk (M := [m57]) ⟨g25.2.2.2.1, trivial⟩ m58 1 (by kernel_rfl) (by kernel_rfl)
  have o223 : MemoOk Tryz.prog Sp m223 := memoOk (M := [m222]) ⟨g25.2.2.2.2.1, trivial⟩ m223 1 (by kernel_rfl) (by kernel_rfl)
  have o434 : MemoOk Tryz.prog Sp m434 := memoOk (M := [m433]) ⟨g32.2.2.2.2.1, trivial⟩ m434 1 (by kernel_rfl) (by kernel_rfl)
  have o436 : MemoOk Tryz.prog Sp m436 := memoOk (M := [m435]) ⟨g32.2.2.2.2.2.1, trivial⟩ m436 1 (by kernel_rfl) (by kernel_rfl)
  have o401 : MemoOk Tryz.prog Sp m401 := memoOk (M := [m381, m390, m44, m400]) ⟨g4.2.2.2.2.2.2.2.2.1, g2.2.1, g1.2.2.2.2.2.2.1, g29.2.2.2.2.1, trivial⟩ m401 1 (by kernel_rfl) (by kernel_rfl)
  have o146 : MemoOk Tryz.prog Sp m146 := memoOk (M := [m134, m106, m127, m132]) ⟨g25.2.2.2.2.2.2.2.2.2.2.2.1, g4.2.2.2.2.2.2.2.2.2.2.2.2.2.1, g5.2.2.2.2.2.2.1, g1.2.2.2.2.2.2.2.2.2.2.2.2.2.1, trivial⟩ m146 1 (by kernel_rfl) (by kernel_rfl)
  have o150 : MemoOk Tryz.prog Sp m150 := memoOk (M := [m143, m119, m137, m142]) ⟨g25.2.2.2.2.2.2.2.2.2.2.2.2.1, g4.2.2.2.2.2.2.2.2.2.2.2.2.2.2.1, g5.2.2.2.2.2.2.2.1, g1.2.2.2.2.2.2.2.2.2.2.2.2.2.2.1, trivial⟩ m150 1 (by kernel_rfl) (by kernel_rfl)
  have o177 : MemoOk Tryz.prog Sp m177 := memoOk (M := [m134, m106, m127, m132]) ⟨g25.2.2.2.2.2.2.2.2.2.2.2.1, g4.2.2.2.2.2.2.2.2.2.2.2.2.2.1, g5.2.2.2.2.2.2.1, g1.2.2.2.2.2.2.2.2.2.2.2.2.2.1, trivial⟩ m177 1 (by kernel_rfl) (by kernel_rfl)
  have o185 : MemoOk Tryz.prog Sp m185 := memoOk (M := [m143, m119, m137, m142]) ⟨g25.2.2.2.2.2.2.2.2.2.2.2.2.1, g4.2.2.2.2.2.2.2.2.2.2.2.2.2.2.1, g5.2.2.2.2.2.2.2.1, g1.2.2.2.2.2.2.2.2.2.2.2.2.2.2.1, trivial⟩ m185 1 (by kernel_rfl) (by kernel_rfl)
  have o291 : MemoOk Tryz.prog Sp m291 := memoOk (M := [m269, m202, m254, m259]) ⟨g25.2.2.2.2.2.2.2.2.2.2.2.2.2.1, g5.2.1, g5.2.2.2.2.2.2.2.2.1, g1.2.2.2.2.2.2.2.2.2.2.2.2.2.2.2.2.1, trivial⟩ m291 1 (by kernel_rfl) (by kernel_rfl)
  have o309 : MemoOk Tryz.prog Sp m309 := memoOk (M := [m269, m202, m254, m259]) ⟨g25.2.2.2.2.2.2.2.2.2.2.2.2.2.1, g5.2.1, g5.2.2.2.2.2.2.2.2.1, g1.2.2.2.2.2.2.2.2.2.2.2.2.2.2.2.2.1, trivial⟩ m309 1 (by kernel_rfl) (by kernel_rfl)
  exact ⟨o234, o300, o270, o370, o373, o7, o58, o223, o434, o436, o401, o146, o150, o177, o185, o291, o309, trivial⟩
theorem g34 : AllOk Tryz.prog Sp [m38, m85, m130, m140, m257, m356, m100, m104, m148, m152, m196, m200, m276, m293, m320, m393, m115, m39, m86, m131, m141] := by
  have o38 : MemoOk Tryz.prog Sp m38 := memoOk (M := [m37, m36, m33]) ⟨g32.2.2.2.2.2.2.1, g30.2.2.2.2.2.2.1, g30.2.1, trivial⟩ m38 2 (by kernel_rfl) (by kernel_rfl)
  have o85 : MemoOk Tryz.prog Sp m85 := memoOk (M := [m84, m83, m81]) ⟨g32.2.2.2.2.2.2.2.1, g30.2.2.2.2.2.2.2.1, g30.2.2.1, trivial⟩ m85 2 (by kernel_rfl) (by kernel_rfl)
  have o130 : MemoOk Tryz.prog Sp m130 := memoOk (M := [m129, m128, m81]) ⟨g32.2.2.2.2.2.2.2.2.1, g30.2.2.2.2.2.2.2.2.1, g30.2.2.1, trivial⟩ m130 2 (by kernel_rfl) (by kernel_rfl)
  have o140 : MemoOk Tryz.prog Sp m140 := memoOk (M := [m139, m138, m33]) ⟨g32.2.2.2.2.2.2.2.2.2.1, g30.2.2.2.2.2.2.2.2.2.1, g30.2.1, trivial⟩ m140 2 (by kernel_rfl) (by kernel_rfl)
  have o257 : MemoOk Tryz.prog Sp m257 := memoOk (M := [m256, m255, m253]) ⟨g32.2.2.2.2.2.2.2.2.2.2.1, g30.2.2.2.2.2.2.2.2.2.2.1, g30.2.2.2.1, trivial⟩ m257 2 (by kernel_rfl) (by kernel_rfl)
  have o356 : MemoOk Tryz.prog Sp m356 := memoOk (M := [m355, m354, m352]) ⟨g32.2.2.2.2.2.2.2.2.2.2.2.1, g30.2.2.2.2.2.2.2.2.2.2.2.1, g30.2.2.2.2.1, trivial⟩ m356 2 (by kernel_rfl) (by kernel_rfl)
  have o100 : MemoOk Tryz.prog Sp m100 := memoOk (M := [m99, m5]) ⟨g31.2.2.1, g2.2.2.2.2.1, trivial⟩ m100 1 (by kernel_rfl) (by kernel_rfl)
  have o104 : MemoOk Tryz.prog Sp m104 := memoOk (M := [m103, m5]) ⟨g31.2.2.2.1, g2.2.2.2.2.1, trivial⟩ m104 1 (by kernel_rfl) (by kernel_rfl)
  have o148 : MemoOk Tryz.prog Sp m148 := memoOk (M := [m147, m133]) ⟨g31.2.2.2.2.1, g2.2.2.2.2.2.2.2.2.1, trivial⟩ m148 1 (by kernel_rfl) (by kernel_rfl)
  have o152 : MemoOk Tryz.prog Sp m152 := memoOk (M := [m151, m51]) ⟨g31.2.2.2.2.2.1, g2.2.2.2.2.2.2.1, trivial⟩ m152 1 (by kernel_rfl) (by kernel_rfl)
  have o196 : MemoOk Tryz.prog Sp m196 := memoOk (M := [m195, m5]) ⟨g31.2.2.2.2.2.2.1, g2.2.2.2.2.1, trivial⟩ m196 1 (by kernel_rfl) (by kernel_rfl)
  have o200 : MemoOk Tryz.prog Sp m200 := memoOk (M := [m199, m5]) ⟨g31.2.2.2.2.2.2.2.1, g2.2.2.2.2.1, trivial⟩ m200 1 (by kernel_rfl) (by kernel_rfl)
  have o276 : MemoOk Tryz.prog Sp m276 := memoOk (M := [m275, m5]) ⟨g32.1, g2.2.2.2.2.1, trivial⟩ m276 1 (by kernel_rfl) (by kernel_rfl)
  have o293 : MemoOk Tryz.prog Sp m293 := memoOk (M := [m292, m268]) ⟨g32.2.1, g2.2.2.2.2.2.2.2.2.2.2.2.2.1, trivial⟩ m293 1 (by kernel_rfl) (by kernel_rfl)
  have o320 : MemoOk Tryz.prog Sp m320 := memoOk (M := [m319, m5]) ⟨g32.2.2.1, g2.2.2.2.2.1, trivial⟩ m320 1 (by kernel_rfl) (by kernel_rfl)
  have o393 : MemoOk Tryz.prog Sp m393 := memoOk (M := [m392, m5]) ⟨g32.2.2.2.1, g2.2.2.2.2.1, trivial⟩ m393 1 (by kernel_rfl) (by kernel_rfl)
  have o115 : MemoOk Tryz.prog Sp m115 := memoOk (M := [m112, m114]) ⟨g25.2.2.2.2.2.2.2.2.2.2.2.2.2.2.1, g32.2.2.2.2.2.2.2.2.2.2.2.2.2.2.2.2.1, trivial⟩ m115 1 (by kernel_rfl) (by kernel_rfl)
  have o39 : MemoOk Tryz.prog Sp m39 := memoOk (M := [m35, m33, m34]) ⟨g4.2.2.2.2.2.2.2.2.2.2.2.2.1, g30.2.1, g5.2.2.2.2.1, trivial⟩ m39 2 (by kernel_rfl) (by kernel_rfl)
  have o86 : MemoOk Tryz.prog Sp m86 := memoOk (M := [m35, m81, m82]) ⟨g4.2.2.2.2.2.2.2.2.2.2.2.2.1, g30.2.2.1, g5.2.2.2.2.2.1, trivial⟩ m86 2 (by kernel_rfl) (by kernel_rfl)
  have o131 : MemoOk Tryz.prog Sp m131 := memoOk (M := [m106, m81, m127]) ⟨g4.2.2.2.2.2.2.2.2.2.2.2.2.2.1, g30.2.2.1, g5.2.2.2.2.2.2.1, trivial⟩ m131 2 (by kernel_rfl) (by kernel_rfl)
  have o141 : MemoOk Tryz.prog Sp m141 := memoOk (M := [m119, m33, m137]) ⟨g4.2.2.2.2.2.2.2.2.2.2.2.2.2.2.1, g30.2.1, g5.2.2.2.2.2.2.2.1, trivial⟩ m141 2 (by kernel_rfl) (by kernel_rfl)
  exact ⟨o38, o85, o130, o140, o257, o356, o100, o104, o148, o152, o196, o200, o276, o293, o320, o393, o115, o39, o86, o131, o141, trivial⟩
end Go.Proofs.YtidopoemgmbogaaGreatDoor
