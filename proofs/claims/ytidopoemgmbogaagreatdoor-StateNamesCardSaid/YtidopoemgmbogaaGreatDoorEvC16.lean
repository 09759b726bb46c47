/- Calls that are reckoned, each by the kernel. -/
import Derived.Test.YtidopoemgmbogaaGreatDoorEvB0
import Derived.Test.YtidopoemgmbogaaGreatDoorEvB1
import Derived.Test.YtidopoemgmbogaaGreatDoorEvC0
import Derived.Test.YtidopoemgmbogaaGreatDoorEvC1
import Derived.Test.YtidopoemgmbogaaGreatDoorEvC2
import Derived.KernelRfl
namespace Go.Proofs.YtidopoemgmbogaaGreatDoor
open Go.Mt
set_option maxRecDepth 100000
theorem g23 : AllOk Tryz.prog Sp [m107, m108, m120, m121, m155, m278, m279, m295, m396, m43, m90, m262, m361, m1, m372, m382] := by
  have o107 : MemoOk Tryz.prog Sp m107 := memoOk (M := []) trivial m107 1 (by kernel_rfl) (by kernel_rfl)
  have o108 : MemoOk Tryz.prog Sp m108 := memoOk (M := []) trivial m108 1 (by kernel_rfl) (by kernel_rfl)
  have o120 : MemoOk Tryz.prog Sp m120 := memoOk (M := []) trivial m120 1 (by kernel_rfl) (by kernel_rfl)
  have o121 : MemoOk Tryz.prog Sp m121 := memoOk (M := []) trivial m121 1 (by kernel_rfl) (by kernel_rfl)
  have o155 : MemoOk Tryz.prog Sp m155 := memoOk (M := []) trivial m155 1 (by kernel_rfl) (by kernel_rfl)
  have o278 : MemoOk Tryz.prog Sp m278 := memoOk (M := []) trivial m278 1 (by kernel_rfl) (by kernel_rfl)
  have o279 : MemoOk Tryz.prog Sp m279 := memoOk (M := []) trivial m279 1 (by kernel_rfl) (by kernel_rfl)
  have o295 : MemoOk Tryz.prog Sp m295 := memoOk (M := []) trivial m295 1 (by kernel_rfl) (by kernel_rfl)
  have o396 : MemoOk Tryz.prog Sp m396 := memoOk (M := []) trivial m396 1 (by kernel_rfl) (by kernel_rfl)
  have o43 : MemoOk Tryz.prog Sp m43 := memoOk (M := []) trivial m43 1 (by kernel_rfl) (by kernel_rfl)
  have o90 : MemoOk Tryz.prog Sp m90 := memoOk (M := []) trivial m90 1 (by kernel_rfl) (by kernel_rfl)
  have o262 : MemoOk Tryz.prog Sp m262 := memoOk (M := []) trivial m262 1 (by kernel_rfl) (by kernel_rfl)
  have o361 : MemoOk Tryz.prog Sp m361 := memoOk (M := []) trivial m361 1 (by kernel_rfl) (by kernel_rfl)
  have o1 : MemoOk Tryz.prog Sp m1 := memoOk (M := []) trivial m1 2 (by kernel_rfl) (by kernel_rfl)
  have o372 : MemoOk Tryz.prog Sp m372 := memoOk (M := [m371]) ⟨g0.2.2.2.2.2.1, trivial⟩ m372 1 (by kernel_rfl) (by kernel_rfl)
  have o382 : MemoOk Tryz.prog Sp m382 := memoOk (M := [m369, m381, m380]) ⟨g4.2.2.2.1, g4.2.2.2.2.2.2.2.2.1, g0.2.2.2.2.2.2.1, trivial⟩ m382 1 (by kernel_rfl) (by kernel_rfl)
  exact ⟨o107, o108, o120, o121, o155, o278, o279, o295, o396, o43, o90, o262, o361, o1, o372, o382, trivial⟩
theorem g24 : AllOk Tryz.prog Sp [m465, m2, m267, m332, m431, m441, m442, m443, m451, m455, m98, m102, m194, m198, m271, m274, m318] := by
  have o465 : MemoOk Tryz.prog Sp m465 := memoOk (M := [m464, m463, m462, m461, m460, m459, m458]) ⟨g1.2.1, g0.2.1, g0.2.2.2.2.2.2.2.2.2.2.2.1, g0.2.2.2.2.2.2.2.2.2.2.2.2.1, g0.2.2.2.2.2.2.2.2.1, g0.2.2.2.2.2.2.2.2.2.2.1, g0.1, trivial⟩ m465 1 (by kernel_rfl) (by kernel_rfl)
  have o2 : MemoOk Tryz.prog Sp m2 := memoOk (M := [m1, m0]) ⟨g23.2.2.2.2.2.2.2.2.2.2.2.2.2.1, g1.2.2.1, trivial⟩ m2 1 (by kernel_rfl) (by kernel_rfl)
  have o267 : MemoOk Tryz.prog Sp m267 := memoOk (M := [m5]) ⟨g2.2.2.2.2.1, trivial⟩ m267 1 (by kernel_rfl) (by kernel_rfl)
  have o332 : MemoOk Tryz.prog Sp m332 := memoOk (M := [m331]) ⟨g2.2.2.2.2.2.2.2.2.2.2.2.2.2.1, trivial⟩ m332 1 (by kernel_rfl) (by kernel_rfl)
  have o431 : MemoOk Tryz.prog Sp m431 := memoOk (M := [m430]) ⟨g4.2.2.2.2.2.2.2.2.2.2.2.1, trivial⟩ m431 1 (by kernel_rfl) (by kernel_rfl)
  have o441 : MemoOk Tryz.prog Sp m441 := memoOk (M := [m440]) ⟨g2.2.2.2.1, trivial⟩ m441 1 (by kernel_rfl) (by kernel_rfl)
  have o442 : MemoOk Tryz.prog Sp m442 := memoOk (M := [m440]) ⟨g2.2.2.2.1, trivial⟩ m442 1 (by kernel_rfl) (by kernel_rfl)
  have o443 : MemoOk Tryz.prog Sp m443 := memoOk (M := [m440]) ⟨g2.2.2.2.1, trivial⟩ m443 1 (by kernel_rfl) (by kernel_rfl)
  have o451 : MemoOk Tryz.prog Sp m451 := memoOk (M := [m440]) ⟨g2.2.2.2.1, trivial⟩ m451 1 (by kernel_rfl) (by kernel_rfl)
  have o455 : MemoOk Tryz.prog Sp m455 := memoOk (M := [m106]) ⟨g4.2.2.2.2.2.2.2.2.2.2.2.2.2.1, trivial⟩ m455 1 (by kernel_rfl) (by kernel_rfl)
  have o98 : MemoOk Tryz.prog Sp m98 := memoOk (M := [m97]) ⟨g1.2.2.2.2.2.2.2.2.2.2.2.2.1, trivial⟩ m98 1 (by kernel_rfl) (by kernel_rfl)
  have o102 : MemoOk Tryz.prog Sp m102 := memoOk (M := [m97]) ⟨g1.2.2.2.2.2.2.2.2.2.2.2.2.1, trivial⟩ m102 1 (by kernel_rfl) (by kernel_rfl)
  have o194 : MemoOk Tryz.prog Sp m194 := memoOk (M := [m193]) ⟨g1.2.2.2.2.2.2.2.2.2.2.2.2.2.2.2.1, trivial⟩ m194 1 (by kernel_rfl) (by kernel_rfl)
  have o198 : MemoOk Tryz.prog Sp m198 := memoOk (M := [m193]) ⟨g1.2.2.2.2.2.2.2.2.2.2.2.2.2.2.2.1, trivial⟩ m198 1 (by kernel_rfl) (by kernel_rfl)
  have o271 : MemoOk Tryz.prog Sp m271 := memoOk (M := [m193]) ⟨g1.2.2.2.2.2.2.2.2.2.2.2.2.2.2.2.1, trivial⟩ m271 1 (by kernel_rfl) (by kernel_rfl)
  have o274 : MemoOk Tryz.prog Sp m274 := memoOk (M := [m273]) ⟨g1.2.2.2.2.2.2.2.2.2.2.2.2.2.2.2.2.2.1, trivial⟩ m274 1 (by kernel_rfl) (by kernel_rfl)
  have o318 : MemoOk Tryz.prog Sp m318 := memoOk (M := [m273]) ⟨g1.2.2.2.2.2.2.2.2.2.2.2.2.2.2.2.2.2.1, trivial⟩ m318 1 (by kernel_rfl) (by kernel_rfl)
  exact ⟨o465, o2, o267, o332, o431, o441, o442, o443, o451, o455, o98, o102, o194, o198, o271, o274, o318, trivial⟩
end Go.Proofs.YtidopoemgmbogaaGreatDoor
