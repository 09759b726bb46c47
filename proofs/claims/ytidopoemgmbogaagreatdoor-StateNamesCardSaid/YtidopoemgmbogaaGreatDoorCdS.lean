/- A part of the proof of the card: the rows that the reckoning leans on hold. -/
import Derived.Test.YtidopoemgmbogaaGreatDoorCdT
import Derived.Test.YtidopoemgmbogaaGreatDoorCdL
import Derived.Shelf.Vars
namespace Go.Proofs.YtidopoemgmbogaaGreatDoor
set_option maxRecDepth 100000
theorem max_at {w : World} (h : w.ShapedOpen Tryz.prog) : Mt.IntAt w.heap[2]? := by
  obtain ⟨m, hm⟩ := Go.Proofs.cell_of_shapedOpen_int (g := 2) (k := .i64) (zero := #[.int .i64 0]) (t := 3) h (of_decide_eq_true (by kernel_rfl)) (by kernel_rfl) rfl (by kernel_rfl) (by kernel_rfl) (by kernel_rfl)
  obtain ⟨cs, h1, h2, _⟩ := h.1 2 #[.int .i64 0] 3 (of_decide_eq_true (by kernel_rfl)) (by kernel_rfl)
  refine ⟨m, 3, (0, 0), ?_⟩
  rw [h1]
  simp only [World.cell?, h1, Option.isSome_none] at hm
  have hc : cs = #[.int .i64 m] := by
    apply Array.ext_getElem?
    intro i
    cases i with
    | zero => simpa using hm
    | succ i =>
      have : cs.size = 1 := h2
      rw [Array.getElem?_eq_none (by omega), Array.getElem?_eq_none (by simp)]
  rw [hc]
theorem max_in {w : World} (h : w.ShapedOpen Tryz.prog) : Mt.Holds 2 Mt.IntAt (Mt.Base.shut w) := by
  have hm := max_at h
  refine ⟨?_, hm⟩
  obtain ⟨m, e, fz, hh⟩ := hm
  exact (Array.getElem?_eq_some_iff.1 hh).1
theorem spec_sound : (Mt.SpecOf 309 255 5).le (Mt.AllSound Tryz.prog (Mt.Holds 2 Mt.IntAt)) :=
  Mt.SpecOf_sound (ti := (Tryz.prog.info? 5).getD default) layIndex layJoin (by kernel_rfl) (by kernel_rfl)
theorem w_sound : (Mt.W Tryz.prog (Mt.SpecOf 309 255 5)).le (Mt.AllSound Tryz.prog (Mt.Holds 2 Mt.IntAt)) :=
  Mt.W_sound (Mt.SpecOf_mono 309 255 5) (Mt.Holds_stays 2 Mt.IntAt) spec_sound layIndex.mixed
end Go.Proofs.YtidopoemgmbogaaGreatDoor
