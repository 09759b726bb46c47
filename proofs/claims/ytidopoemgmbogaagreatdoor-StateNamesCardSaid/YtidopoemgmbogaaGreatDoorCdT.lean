/- A part of the proof of the card: what the condition says of the tables. -/
import Derived.Test.YtidopoemgmbogaaGreatDoorCdG
import Derived.Test.YtidopoemgmbogaaGreatDoorMtD
namespace Go.Proofs.YtidopoemgmbogaaGreatDoor
set_option maxRecDepth 100000

/-- the tables that the code reads. -/
def tabs : Mt.Tabs := [(0, .u32, beginTab), (1, .u32, factorTab)]
theorem tab_of {W : World} {n : String} {k : IntKind} {zs : List Int} {g t e : Nat} {m : Nat} (hg : Tryz.prog.globalNamed n = some g) (ht : (Tryz.prog.globals[g]?).map (·.type) = some t)
    (hu : Tryz.prog.underlying t = some (.array m e)) (he : Tryz.prog.underlying e = some (.int k)) (hce : Tryz.prog.cellsOf e = 1) (hct : Tryz.prog.cellsOf t = m) (h : Lib.VarReads Tryz.prog W n (Lib.tabData k zs)) :
    ∃ el fz, W.heap[g]? = some (.cells (Mt.intsOf k zs).toArray el fz) := by
  obtain ⟨g', t', cs, fuel, p, hg', ht', hv, hd⟩ := h
  obtain rfl := Option.some.inj (hg.symm.trans hg')
  obtain rfl := Option.some.inj (ht.symm.trans ht')
  have hc := Lib.cells_of_tab hu he hce hct hd
  unfold World.var? at hv
  rw [hg] at hv
  simp only [Option.bind_some] at hv
  split at hv
  · rename_i c el fz hh
    cases hv
    refine ⟨el, fz, ?_⟩
    rw [hh, show Mt.intsOf k zs = cs.toList from hc.symm]
  · cases hv
theorem tabs_of {W : World} (h : laidMetH Tryz.prog Rows.stateNamesRow.laid W) : ∀ t ∈ tabs, t.1 < Tryz.prog.globals.size ∧ ∃ e fz, W.heap[t.1]? = some (.cells (Mt.intsOf t.2.1 t.2.2).toArray e fz) := by
  have hs : Tryz.prog.globals.size = 5 := by kernel_rfl
  unfold laidMetH at h
  rw [plainL] at h
  intro t ht
  simp only [tabs, List.mem_cons, List.mem_nil_iff, or_false] at ht
  rcases ht with rfl | rfl
  · exact ⟨by rw [hs]; decide, tab_of (t := 213) (e := 46) (m := 8) (n := "marshes/hash.begin") (by kernel_rfl) (by kernel_rfl) (by kernel_rfl) (by kernel_rfl) (by kernel_rfl) (by kernel_rfl) (Lib.laidMet.reads h (List.mem_cons_of_mem _ (List.mem_cons_self ..)))⟩
  · exact ⟨by rw [hs]; decide, tab_of (t := 439) (e := 46) (m := 64) (n := "marshes/hash.factors") (by kernel_rfl) (by kernel_rfl) (by kernel_rfl) (by kernel_rfl) (by kernel_rfl) (by kernel_rfl) (Lib.laidMet.reads h (List.mem_cons_of_mem _ (List.mem_cons_of_mem _ (List.mem_cons_self ..))))⟩
end Go.Proofs.YtidopoemgmbogaaGreatDoor
