/- Calls that are reckoned, each by the kernel. -/
import Derived.Test.YtidopoemgmbogaaGreatDoorEvB0
import Derived.Test.YtidopoemgmbogaaGreatDoorEvB1
import Derived.Test.YtidopoemgmbogaaGreatDoorEvC0
import Derived.Test.YtidopoemgmbogaaGreatDoorEvC1
import Derived.Test.YtidopoemgmbogaaGreatDoorEvC2
import Derived.Test.YtidopoemgmbogaaGreatDoorEvC9
import Derived.Test.YtidopoemgmbogaaGreatDoorEvC10
import Derived.KernelRfl
namespace Go.Proofs.YtidopoemgmbogaaGreatDoor
open Go.Mt
set_option maxRecDepth 100000
theorem g31 : AllOk Tryz.prog Sp [m215, m346, m99, m103, m147, m151, m195, m199] := by
  have o215 : MemoOk Tryz.prog Sp m215 := memoOk (M := [m21]) ⟨g4.2.1, trivial⟩ m215 1 (by kernel_rfl) (by kernel_rfl)
  have o346 : MemoOk Tryz.prog Sp m346 := memoOk (M := [m21]) ⟨g4.2.1, trivial⟩ m346 1 (by kernel_rfl) (by kernel_rfl)
  have o99 : MemoOk Tryz.prog Sp m99 := memoOk (M := [m5]) ⟨g2.2.2.2.2.1, trivial⟩ m99 1 (by kernel_rfl) (by kernel_rfl)
  have o103 : MemoOk Tryz.prog Sp m103 := memoOk (M := [m5]) ⟨g2.2.2.2.2.1, trivial⟩ m103 1 (by kernel_rfl) (by kernel_rfl)
  have o147 : MemoOk Tryz.prog Sp m147 := memoOk (M := [m133]) ⟨g2.2.2.2.2.2.2.2.2.1, trivial⟩ m147 1 (by kernel_rfl) (by kernel_rfl)
  have o151 : MemoOk Tryz.prog Sp m151 := memoOk (M := [m51]) ⟨g2.2.2.2.2.2.2.1, trivial⟩ m151 1 (by kernel_rfl) (by kernel_rfl)
  have o195 : MemoOk Tryz.prog Sp m195 := memoOk (M := [m5]) ⟨g2.2.2.2.2.1, trivial⟩ m195 1 (by kernel_rfl) (by kernel_rfl)
  have o199 : MemoOk Tryz.prog Sp m199 := memoOk (M := [m5]) ⟨g2.2.2.2.2.1, trivial⟩ m199 1 (by kernel_rfl) (by kernel_rfl)
  exact ⟨o215, o346, o99, o103, o147, o151, o195, o199, trivial⟩
theorem g32 : AllOk Tryz.prog Sp [m275, m292, m319, m392, m433, m435, m37, m84, m129, m139, m256, m355, m13, m447, m17, m66, m114, m161, m172] := by
  have o275 : MemoOk Tryz.prog Sp m275 := memoOk (M := [m5]) ⟨g2.2.2.2.2.1, trivial⟩ m275 1 (by kernel_rfl) (by kernel_rfl)
  have o292 : MemoOk Tryz.prog Sp m292 := memoOk (M := [m268]) ⟨g2.2.2.2.2.2.2.2.2.2.2.2.2.1, trivial⟩ m292 1 (by kernel_rfl) (by kernel_rfl)
  have o319 : MemoOk Tryz.prog Sp m319 := memoOk (M := [m5]) ⟨g2.2.2.2.2.1, trivial⟩ m319 1 (by kernel_rfl) (by kernel_rfl)
  have o392 : MemoOk Tryz.prog Sp m392 := memoOk (M := [m5]) ⟨g2.2.2.2.2.1, trivial⟩ m392 1 (by kernel_rfl) (by kernel_rfl)
  have o433 : MemoOk Tryz.prog Sp m433 := memoOk (M := [m5]) ⟨g2.2.2.2.2.1, trivial⟩ m433 1 (by kernel_rfl) (by kernel_rfl)
  have o435 : MemoOk Tryz.prog Sp m435 := memoOk (M := [m5]) ⟨g2.2.2.2.2.1, trivial⟩ m435 1 (by kernel_rfl) (by kernel_rfl)
  have o37 : MemoOk Tryz.prog Sp m37 := memoOk (M := [m34]) ⟨g5.2.2.2.2.1, trivial⟩ m37 2 (by kernel_rfl) (by kernel_rfl)
  have o84 : MemoOk Tryz.prog Sp m84 := memoOk (M := [m82]) ⟨g5.2.2.2.2.2.1, trivial⟩ m84 2 (by kernel_rfl) (by kernel_rfl)
  have o129 : MemoOk Tryz.prog Sp m129 := memoOk (M := [m127]) ⟨g5.2.2.2.2.2.2.1, trivial⟩ m129 2 (by kernel_rfl) (by kernel_rfl)
  have o139 : MemoOk Tryz.prog Sp m139 := memoOk (M := [m137]) ⟨g5.2.2.2.2.2.2.2.1, trivial⟩ m139 2 (by kernel_rfl) (by kernel_rfl)
  have o256 : MemoOk Tryz.prog Sp m256 := memoOk (M := [m254]) ⟨g5.2.2.2.2.2.2.2.2.1, trivial⟩ m256 2 (by kernel_rfl) (by kernel_rfl)
  have o355 : MemoOk Tryz.prog Sp m355 := memoOk (M := [m353]) ⟨g5.2.2.2.2.2.2.2.2.2.1, trivial⟩ m355 2 (by kernel_rfl) (by kernel_rfl)
  have o13 : MemoOk Tryz.prog Sp m13 := memoOk (M := [m0]) ⟨g1.2.2.1, trivial⟩ m13 1 (by kernel_rfl) (by kernel_rfl)
  have o447 : MemoOk Tryz.prog Sp m447 := memoOk (M := [m446]) ⟨g1.2.2.2.1, trivial⟩ m447 1 (by kernel_rfl) (by kernel_rfl)
  have o17 : MemoOk Tryz.prog Sp m17 := memoOk (M := [m16]) ⟨g13.1, trivial⟩ m17 2 (by kernel_rfl) (by kernel_rfl)
  have o66 : MemoOk Tryz.prog Sp m66 := memoOk (M := [m65]) ⟨g15.1, trivial⟩ m66 2 (by kernel_rfl) (by kernel_rfl)
  have o114 : MemoOk Tryz.prog Sp m114 := memoOk (M := [m113]) ⟨g15.2.2.1, trivial⟩ m114 2 (by kernel_rfl) (by kernel_rfl)
  have o161 : MemoOk Tryz.prog Sp m161 := memoOk (M := [m160]) ⟨g16.2.1, trivial⟩ m161 2 (by kernel_rfl) (by kernel_rfl)
  have o172 : MemoOk Tryz.prog Sp m172 := memoOk (M := [m171]) ⟨g17.2.1, trivial⟩ m172 2 (by kernel_rfl) (by kernel_rfl)
  exact ⟨o275, o292, o319, o392, o433, o435, o37, o84, o129, o139, o256, o355, o13, o447, o17, o66, o114, o161, o172, trivial⟩
end Go.Proofs.YtidopoemgmbogaaGreatDoor
