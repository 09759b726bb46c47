/- Calls that are reckoned, each by the kernel. -/
import Derived.Test.YtidopoemgmbogaaGreatDoorEvB0
import Derived.Test.YtidopoemgmbogaaGreatDoorEvB1
import Derived.KernelRfl
namespace Go.Proofs.YtidopoemgmbogaaGreatDoor
open Go.Mt
set_option maxRecDepth 100000
theorem g0 : AllOk Tryz.prog Sp [m458, m463, m10, m227, m366, m371, m380, m395, m460, m432, m459, m462, m461, m452, m453, m454] := by
  have o458 : MemoOk Tryz.prog Sp m458 := memoOk (M := []) trivial m458 1 (by kernel_rfl) (by kernel_rfl)
  have o463 : MemoOk Tryz.prog Sp m463 := memoOk (M := []) trivial m463 1 (by kernel_rfl) (by kernel_rfl)
  have o10 : MemoOk Tryz.prog Sp m10 := memoOk (M := []) trivial m10 2 (by kernel_rfl) (by kernel_rfl)
  have o227 : MemoOk Tryz.prog Sp m227 := memoOk (M := []) trivial m227 2 (by kernel_rfl) (by kernel_rfl)
  have o366 : MemoOk Tryz.prog Sp m366 := memoOk (M := []) trivial m366 1 (by kernel_rfl) (by kernel_rfl)
  have o371 : MemoOk Tryz.prog Sp m371 := memoOk (M := []) trivial m371 1 (by kernel_rfl) (by kernel_rfl)
  have o380 : MemoOk Tryz.prog Sp m380 := memoOk (M := []) trivial m380 1 (by kernel_rfl) (by kernel_rfl)
  have o395 : MemoOk Tryz.prog Sp m395 := memoOk (M := []) trivial m395 2 (by kernel_rfl) (by kernel_rfl)
  have o460 : MemoOk Tryz.prog Sp m460 := memoOk (M := []) trivial m460 2 (by kernel_rfl) (by kernel_rfl)
  have o432 : MemoOk Tryz.prog Sp m432 := memoOk (M := []) trivial m432 1 (by kernel_rfl) (by kernel_rfl)
  have o459 : MemoOk Tryz.prog Sp m459 := memoOk (M := []) trivial m459 1 (by kernel_rfl) (by kernel_rfl)
  have o462 : MemoOk Tryz.prog Sp m462 := memoOk (M := []) trivial m462 1 (by kernel_rfl) (by kernel_rfl)
  have o461 : MemoOk Tryz.prog Sp m461 := memoOk (M := []) trivial m461 1 (by kernel_rfl) (by kernel_rfl)
  have o452 : MemoOk Tryz.prog Sp m452 := memoOk (M := []) trivial m452 1 (by kernel_rfl) (by kernel_rfl)
  have o453 : MemoOk Tryz.prog Sp m453 := memoOk (M := []) trivial m453 1 (by kernel_rfl) (by kernel_rfl)
  have o454 : MemoOk Tryz.prog Sp m454 := memoOk (M := []) trivial m454 1 (by kernel_rfl) (by kernel_rfl)
  exact ⟨o458, o463, o10, o227, o366, o371, o380, o395, o460, o432, o459, o462, o461, o452, o453, o454, trivial⟩
theorem g1 : AllOk Tryz.prog Sp [m456, m464, m0, m446, m350, m385, m44, m263, m362, m427, m40, m87, m97, m132, m142, m193, m259, m273] := by
  have o456 : MemoOk Tryz.prog Sp m456 := memoOk (M := []) trivial m456 1 (by kernel_rfl) (by kernel_rfl)
  have o464 : MemoOk Tryz.prog Sp m464 := memoOk (M := []) trivial m464 1 (by kernel_rfl) (by kernel_rfl)
  have o0 : MemoOk Tryz.prog Sp m0 := memoOk (M := []) trivial m0 1 (by kernel_rfl) (by kernel_rfl)
  have o446 : MemoOk Tryz.prog Sp m446 := memoOk (M := []) trivial m446 1 (by kernel_rfl) (by kernel_rfl)
  have o350 : MemoOk Tryz.prog Sp m350 := memoOk (M := []) trivial m350 1 (by kernel_rfl) (by kernel_rfl)
  have o385 : MemoOk Tryz.prog Sp m385 := memoOk (M := []) trivial m385 1 (by kernel_rfl) (by kernel_rfl)
  have o44 : MemoOk Tryz.prog Sp m44 := memoOk (M := []) trivial m44 1 (by kernel_rfl) (by kernel_rfl)
  have o263 : MemoOk Tryz.prog Sp m263 := memoOk (M := []) trivial m263 1 (by kernel_rfl) (by kernel_rfl)
  have o362 : MemoOk Tryz.prog Sp m362 := memoOk (M := []) trivial m362 1 (by kernel_rfl) (by kernel_rfl)
  have o427 : MemoOk Tryz.prog Sp m427 := memoOk (M := []) trivial m427 1 (by kernel_rfl) (by kernel_rfl)
  have o40 : MemoOk Tryz.prog Sp m40 := memoOk (M := []) trivial m40 2 (by kernel_rfl) (by kernel_rfl)
  have o87 : MemoOk Tryz.prog Sp m87 := memoOk (M := []) trivial m87 2 (by kernel_rfl) (by kernel_rfl)
  have o97 : MemoOk Tryz.prog Sp m97 := memoOk (M := []) trivial m97 2 (by kernel_rfl) (by kernel_rfl)
  have o132 : MemoOk Tryz.prog Sp m132 := memoOk (M := []) trivial m132 2 (by kernel_rfl) (by kernel_rfl)
  have o142 : MemoOk Tryz.prog Sp m142 := memoOk (M := []) trivial m142 2 (by kernel_rfl) (by kernel_rfl)
  have o193 : MemoOk Tryz.prog Sp m193 := memoOk (M := []) trivial m193 2 (by kernel_rfl) (by kernel_rfl)
  have o259 : MemoOk Tryz.prog Sp m259 := memoOk (M := []) trivial m259 2 (by kernel_rfl) (by kernel_rfl)
  have o273 : MemoOk Tryz.prog Sp m273 := memoOk (M := []) trivial m273 2 (by kernel_rfl) (by kernel_rfl)
  exact ⟨o456, o464, o0, o446, o350, o385, o44, o263, o362, o427, o40, o87, o97, o132, o142, o193, o259, o273, trivial⟩
end Go.Proofs.YtidopoemgmbogaaGreatDoor
