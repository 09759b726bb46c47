/- Calls that are reckoned, each by the kernel. -/
import Derived.Test.YtidopoemgmbogaaGreatDoorEvB0
import Derived.Test.YtidopoemgmbogaaGreatDoorEvB1
import Derived.KernelRfl
namespace Go.Proofs.YtidopoemgmbogaaGreatDoor
open Go.Mt
set_option maxRecDepth 100000
theorem g2 : AllOk Tryz.prog Sp [m358, m390, m428, m440, m5, m27, m51, m75, m133, m211, m221, m245, m268, m331, m348, m403, m404, m405, m406] := by
  have o358 : MemoOk Tryz.prog Sp m358 := memoOk (M := []) trivial m358 2 (by kernel_rfl) (by kernel_rfl)
  have o390 : MemoOk Tryz.prog Sp m390 := memoOk (M := []) trivial m390 2 (by kernel_rfl) (by kernel_rfl)
  have o428 : MemoOk Tryz.prog Sp m428 := memoOk (M := []) trivial m428 2 (by kernel_rfl) (by kernel_rfl)
  have o440 : MemoOk Tryz.prog Sp m440 := memoOk (M := []) trivial m440 2 (by kernel_rfl) (by kernel_rfl)
  have o5 : MemoOk Tryz.prog Sp m5 := memoOk (M := []) trivial m5 1 (by kernel_rfl) (by kernel_rfl)
  have o27 : MemoOk Tryz.prog Sp m27 := memoOk (M := []) trivial m27 1 (by kernel_rfl) (by kernel_rfl)
  have o51 : MemoOk Tryz.prog Sp m51 := memoOk (M := []) trivial m51 1 (by kernel_rfl) (by kernel_rfl)
  have o75 : MemoOk Tryz.prog Sp m75 := memoOk (M := []) trivial m75 1 (by kernel_rfl) (by kernel_rfl)
  have o133 : MemoOk Tryz.prog Sp m133 := memoOk (M := []) trivial m133 1 (by kernel_rfl) (by kernel_rfl)
  have o211 : MemoOk Tryz.prog Sp m211 := memoOk (M := []) trivial m211 1 (by kernel_rfl) (by kernel_rfl)
  have o221 : MemoOk Tryz.prog Sp m221 := memoOk (M := []) trivial m221 1 (by kernel_rfl) (by kernel_rfl)
  have o245 : MemoOk Tryz.prog Sp m245 := memoOk (M := []) trivial m245 1 (by kernel_rfl) (by kernel_rfl)
  have o268 : MemoOk Tryz.prog Sp m268 := memoOk (M := []) trivial m268 1 (by kernel_rfl) (by kernel_rfl)
  have o331 : MemoOk Tryz.prog Sp m331 := memoOk (M := []) trivial m331 1 (by kernel_rfl) (by kernel_rfl)
  have o348 : MemoOk Tryz.prog Sp m348 := memoOk (M := []) trivial m348 1 (by kernel_rfl) (by kernel_rfl)
  have o403 : MemoOk Tryz.prog Sp m403 := memoOk (M := []) trivial m403 1 (by kernel_rfl) (by kernel_rfl)
  have o404 : MemoOk Tryz.prog Sp m404 := memoOk (M := []) trivial m404 1 (by kernel_rfl) (by kernel_rfl)
  have o405 : MemoOk Tryz.prog Sp m405 := memoOk (M := []) trivial m405 1 (by kernel_rfl) (by kernel_rfl)
  have o406 : MemoOk Tryz.prog Sp m406 := memoOk (M := []) trivial m406 1 (by kernel_rfl) (by kernel_rfl)
  exact ⟨o358, o390, o428, o440, o5, o27, o51, o75, o133, o211, o221, o245, o268, o331, o348, o403, o404, o405, o406, trivial⟩
theorem g3 : AllOk Tryz.prog Sp [m407, m408, m409, m410, m411, m412, m413, m414, m415, m416, m417, m418, m419, m420, m421, m422, m423, m424] := by
  have o407 : MemoOk Tryz.prog Sp m407 := memoOk (M := []) trivial m407 1 (by kernel_rfl) (by kernel_rfl)
  have o408 : MemoOk Tryz.prog Sp m408 := memoOk (M := []) trivial m408 1 (by kernel_rfl) (by kernel_rfl)
  have o409 : MemoOk Tryz.prog Sp m409 := memoOk (M := []) trivial m409 1 (by kernel_rfl) (by kernel_rfl)
  have o410 : MemoOk Tryz.prog Sp m410 := memoOk (M := []) trivial m410 1 (by kernel_rfl) (by kernel_rfl)
  have o411 : MemoOk Tryz.prog Sp m411 := memoOk (M := []) trivial m411 1 (by kernel_rfl) (by kernel_rfl)
  have o412 : MemoOk Tryz.prog Sp m412 := memoOk (M := []) trivial m412 1 (by kernel_rfl) (by kernel_rfl)
  have o413 : MemoOk Tryz.prog Sp m413 := memoOk (M := []) trivial m413 1 (by kernel_rfl) (by kernel_rfl)
  have o414 : MemoOk Tryz.prog Sp m414 := memoOk (M := []) trivial m414 1 (by kernel_rfl) (by kernel_rfl)
  have o415 : MemoOk Tryz.prog Sp m415 := memoOk (M := []) trivial m415 1 (by kernel_rfl) (by kernel_rfl)
  have o416 : MemoOk Tryz.prog Sp m416 := memoOk (M := []) trivial m416 1 (by kernel_rfl) (by kernel_rfl)
  have o417 : MemoOk Tryz.prog Sp m417 := memoOk (M := []) trivial m417 1 (by kernel_rfl) (by kernel_rfl)
  have o418 : MemoOk Tryz.prog Sp m418 := memoOk (M := []) trivial m418 1 (by kernel_rfl) (by kernel_rfl)
  have o419 : MemoOk Tryz.prog Sp m419 := memoOk (M := []) trivial m419 1 (by kernel_rfl) (by kernel_rfl)
  have o420 : MemoOk Tryz.prog Sp m420 := memoOk (M := []) trivial m420 1 (by kernel_rfl) (by kernel_rfl)
  have o421 : MemoOk Tryz.prog Sp m421 := memoOk (M := []) trivial m421 1 (by kernel_rfl) (by kernel_rfl)
  have o422 : MemoOk Tryz.prog Sp m422 := memoOk (M := []) trivial m422 1 (by kernel_rfl) (by kernel_rfl)
  have o423 : MemoOk Tryz.prog Sp m423 := memoOk (M := []) trivial m423 1 (by kernel_rfl) (by kernel_rfl)
  have o424 : MemoOk Tryz.prog Sp m424 := memoOk (M := []) trivial m424 1 (by kernel_rfl) (by kernel_rfl)
  exact ⟨o407, o408, o409, o410, o411, o412, o413, o414, o415, o416, o417, o418, o419, o420, o421, o422, o423, o424, trivial⟩
end Go.Proofs.YtidopoemgmbogaaGreatDoor
