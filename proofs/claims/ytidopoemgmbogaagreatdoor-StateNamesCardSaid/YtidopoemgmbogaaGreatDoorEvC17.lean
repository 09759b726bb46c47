/- Calls that are reckoned, each by the kernel. -/
import Derived.Test.YtidopoemgmbogaaGreatDoorEvB0
import Derived.Test.YtidopoemgmbogaaGreatDoorEvB1
import Derived.Test.YtidopoemgmbogaaGreatDoorEvC0
import Derived.Test.YtidopoemgmbogaaGreatDoorEvC1
import Derived.Test.YtidopoemgmbogaaGreatDoorEvC3
import Derived.Test.YtidopoemgmbogaaGreatDoorEvC4
import Derived.Test.YtidopoemgmbogaaGreatDoorEvC5
import Derived.Test.YtidopoemgmbogaaGreatDoorEvC6
import Derived.Test.YtidopoemgmbogaaGreatDoorEvC7
import Derived.Test.YtidopoemgmbogaaGreatDoorEvC8
import Derived.Test.YtidopoemgmbogaaGreatDoorEvC9
import Derived.Test.YtidopoemgmbogaaGreatDoorEvC16
import Derived.KernelRfl
namespace Go.Proofs.YtidopoemgmbogaaGreatDoor
open Go.Mt
set_option maxRecDepth 100000
theorem g25 : AllOk Tryz.prog Sp [m322, m391, m6, m57, m222, m229, m4, m9, m60, m226, m445, m134, m143, m269, m112, m30, m78] := by
  have o322 : MemoOk Tryz.prog Sp m322 := memoOk (M := [m273]) ⟨g1.2.2.2.2.2.2.2.2.2.2.2.2.2.2.2.2.2.1, trivial⟩ m322 1 (by kernel_rfl) (by kernel_rfl)
  have o391 : MemoOk Tryz.prog Sp m391 := memoOk (M := [m390]) ⟨g2.2.1, trivial⟩ m391 1 (by kernel_rfl) (by kernel_rfl)
  have o6 : MemoOk Tryz.prog Sp m6 := memoOk (M := [m5]) ⟨g2.2.2.2.2.1, trivial⟩ m6 1 (by kernel_rfl) (by kernel_rfl)
  have o57 : MemoOk Tryz.prog Sp m57 := memoOk (M := [m5]) ⟨g2.2.2.2.2.1, trivial⟩ m57 1 (by kernel_rfl) (by kernel_rfl)
  have o222 : MemoOk Tryz.prog Sp m222 := memoOk (M := [m221]) ⟨g2.2.2.2.2.2.2.2.2.2.2.1, trivial⟩ m222 1 (by kernel_rfl) (by kernel_rfl)
  have o229 : MemoOk Tryz.prog Sp m229 := memoOk (M := [m211]) ⟨g2.2.2.2.2.2.2.2.2.2.1, trivial⟩ m229 1 (by kernel_rfl) (by kernel_rfl)
  have o4 : MemoOk Tryz.prog Sp m4 := memoOk (M := [m3]) ⟨g6.1, trivial⟩ m4 1 (by kernel_rfl) (by kernel_rfl)
  have o9 : MemoOk Tryz.prog Sp m9 := memoOk (M := [m8]) ⟨g7.1, trivial⟩ m9 1 (by kernel_rfl) (by kernel_rfl)
  have o60 : MemoOk Tryz.prog Sp m60 := memoOk (M := [m59]) ⟨g8.1, trivial⟩ m60 1 (by kernel_rfl) (by kernel_rfl)
  have o226 : MemoOk Tryz.prog Sp m226 := memoOk (M := [m225, m224]) ⟨g10.1, g9.1, trivial⟩ m226 1 (by kernel_rfl) (by kernel_rfl)
  have o445 : MemoOk Tryz.prog Sp m445 := memoOk (M := [m444]) ⟨g11.1, trivial⟩ m445 1 (by kernel_rfl) (by kernel_rfl)
  have o134 : MemoOk Tryz.prog Sp m134 := memoOk (M := [m133, m5]) ⟨g2.2.2.2.2.2.2.2.2.1, g2.2.2.2.2.1, trivial⟩ m134 1 (by kernel_rfl) (by kernel_rfl)
  have o143 : MemoOk Tryz.prog Sp m143 := memoOk (M := [m51, m5]) ⟨g2.2.2.2.2.2.2.1, g2.2.2.2.2.1, trivial⟩ m143 1 (by kernel_rfl) (by kernel_rfl)
  have o269 : MemoOk Tryz.prog Sp m269 := memoOk (M := [m268, m5]) ⟨g2.2.2.2.2.2.2.2.2.2.2.2.2.1, g2.2.2.2.2.1, trivial⟩ m269 1 (by kernel_rfl) (by kernel_rfl)
  have o112 : MemoOk Tryz.prog Sp m112 := memoOk (M := [m111]) ⟨g15.2.1, trivial⟩ m112 1 (by kernel_rfl) (by kernel_rfl)
  have o30 : MemoOk Tryz.prog Sp m30 := memoOk (M := [m5]) ⟨g2.2.2.2.2.1, trivial⟩ m30 1 (by kernel_rfl) (by kernel_rfl)
  have o78 : MemoOk Tryz.prog Sp m78 := memoOk (M := [m5]) ⟨g2.2.2.2.2.1, trivial⟩ m78 1 (by kernel_rfl) (by kernel_rfl)
  exact ⟨o322, o391, o6, o57, o222, o229, o4, o9, o60, o226, o445, o134, o143, o269, o112, o30, o78, trivial⟩
theorem g26 : AllOk Tryz.prog Sp [m368, m386, m109, m122, m156] := by
  have o368 : MemoOk Tryz.prog Sp m368 := memoOk (M := [m5]) ⟨g2.2.2.2.2.1, trivial⟩ m368 1 (by kernel_rfl) (by kernel_rfl)
  have o386 : MemoOk Tryz.prog Sp m386 := memoOk (M := [m5]) ⟨g2.2.2.2.2.1, trivial⟩ m386 1 (by kernel_rfl) (by kernel_rfl)
  have o109 : MemoOk Tryz.prog Sp m109 := memoOk (M := [m108, m107]) ⟨g23.2.1, g23.1, trivial⟩ m109 2 (by kernel_rfl) (by kernel_rfl)
  have o122 : MemoOk Tryz.prog Sp m122 := memoOk (M := [m121, m120]) ⟨g23.2.2.2.1, g23.2.2.1, trivial⟩ m122 2 (by kernel_rfl) (by kernel_rfl)
  have o156 : MemoOk Tryz.prog Sp m156 := memoOk (M := [m155]) ⟨g23.2.2.2.2.1, trivial⟩ m156 2 (by kernel_rfl) (by kernel_rfl)
  exact ⟨o368, o386, o109, o122, o156, trivial⟩
end Go.Proofs.YtidopoemgmbogaaGreatDoor
