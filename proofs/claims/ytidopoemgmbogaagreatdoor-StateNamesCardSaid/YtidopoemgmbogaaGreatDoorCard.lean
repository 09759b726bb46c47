/- THE CARD of StateNames holds: the law StateNames returns true in every world that meets the row, and changes nothing that was there; no conditions beside the statement's. -/
import Derived.Test.YtidopoemgmbogaaGreatDoorEvZ
import Derived.Test.YtidopoemgmbogaaGreatDoorCdS
import Derived.Test.YtidopoemgmbogaaGreatDoorCdE
import Derived.Test.YtidopoemgmbogaaGreatDoorCdC
import Derived.Test.YtidopoemgmbogaaGreatDoorCdD
import Derived.LaidLaws
import Derived.Handed
import Derived.SevenTiedAt
import Derived.Test.YtidopoemgmbogaaGreatDoorCards
namespace Go.Proofs.YtidopoemgmbogaaGreatDoor
open Go.ChangeShapes Go.WideShapes Go.ChangeAt Go.WideMaps Go.WideElems Go.RowKit
set_option maxRecDepth 100000
theorem res3 : f3.resultTypes = #[4] := by kernel_rfl
theorem und4 : Tryz.prog.underlying 4 = some .bool := by kernel_rfl
theorem gsz : Tryz.prog.globals.size = 5 := by kernel_rfl
theorem calls3 {W : World} (hsh : W.ShapedOpen Tryz.prog) (hL : laidMetH Tryz.prog Rows.stateNamesRow.laid W) :
    Calls Tryz.prog 3 #[] W fun e W' => e = .returned (.bool true) ∧ W'.os = W.os ∧ W'.output = W.output ∧ ∀ i, i < W.heap.size → W'.heap[i]? = W.heap[i]? :=
  Mt.closed_calls (R := fun _ => True) (i := (Tryz.prog.info? 0).getD default) w_sound (max_in hsh) (by kernel_rfl) (tabs_of hL) (by rw [gsz]; exact root_W)
theorem post3 {H : Type} {enc : TypeId × Value → H} {W W' : World} {ds gs : List (DataW H)} {before : List MemPlace} {args : Array Value}
    (hW : DataW.Whole enc Tryz.prog f3.params.toList Rows.stateNamesSpec.vars false W args.toList ds gs before) (h1 : W'.os = W.os) (h2 : W'.output = W.output) (h3 : ∀ i, i < W.heap.size → W'.heap[i]? = W.heap[i]?) :
    args = #[] ∧ Rows.stateNamesSpec.post enc Tryz.prog f3 false true false false W args (.bool true) W' := by
  have hW' := hW
  obtain ⟨p, q, hA, hV, rfl, _, _⟩ := hW
  rw [params3] at hA
  obtain ⟨rfl, rfl, rfl⟩ := trodAll_none hA
  obtain ⟨rfl, rfl⟩ := trodVars_none hV
  refine ⟨rfl, [], [], [], [], [], [], hW', ?_, ?_, rfl, ⟨h1, h2, fun i hi => ?_⟩, fun h => by cases h⟩
  · rw [res3]; exact trodAll_mk1 (shut_bool und4 true)
  · rw [params3]; exact trodAll_mk0
  · rw [h3 i hi]
    cases hh : W.heap[i]? with
    | none => rfl
    | some o =>
      cases o <;> first | rfl | exact ⟨rfl, rfl, rfl, fun _ _ => rfl⟩ | exact .inr ⟨rfl, rfl⟩
theorem lifted (os : Os) (started : os.Started) (H : Type) (enc : TypeId × Value → H) :
    ReturnsInHanded {} Tryz.checked os 3 .any (fun w args => (Rows.stateNamesSpec.pre enc Tryz.prog f3 [] false w args ∧ laidMetH Tryz.prog Rows.stateNamesRow.laid w) ∧ sizedMet enc Tryz.prog f3 (OpenSpec.ofChange Rows.stateNamesSpec) false w args)
      (Rows.stateNamesSpec.post enc Tryz.prog f3 false true false false) := by
  refine returnsInHanded_of_calls (C := Tryz.checked) own started noInit
    (ChangeSpec.witness_shaped (enc := enc) (C := Tryz.checked) (os := os) (fn := f3) (s := Rows.stateNamesSpec) (conds := []) (X := fun w _ => laidMetH Tryz.prog Rows.stateNamesRow.laid w) false (laidWorld os) #[] 8 rfl (sh1 os) (sh2 os) (by kernel_rfl) (by kernel_rfl) (door_met os _)) ?_
  intro w tape i _ hsh _ hok hpre _
  obtain ⟨⟨⟨ds, gs, before, hw, _⟩, hx⟩, _⟩ := hpre
  have hw' := DataW.Whole.of_heap (w' := w.forCall tape i) (by rfl) hw
  have hL : laidMetH Tryz.prog Rows.stateNamesRow.laid (w.forCall tape i) := hx.of_heap (by rfl)
  have ha := (post3 (W' := w.forCall tape i) hw' rfl rfl fun _ _ => rfl).1
  rw [ha]
  refine (calls3 hsh hL).mono fun e W' ⟨he, h1, h2, h3⟩ => ?_
  subst he
  have := (post3 hw' h1 h2 h3).2
  rw [ha] at this
  exact ChangeSpec.post_blind this
theorem stateNames_holds : Rows.StateNamesSaid :=
  OpenClaim.holds_of_wide 3 f3 rfl rfl rfl rfl rfl rfl rfl ⟨rfl, rfl, rfl, rfl, rfl⟩ rfl rfl rfl rfl rfl fname func3 closed3 inst3 wrap3 (fun os started H enc _ => lifted os started H enc)
theorem goes3 : false = Rows.stateNamesRow.goesBy Tryz.prog := by
  have hn : ∀ f : Nat, (Tryz.prog.funcs[f]?).any Func.goes = false := by
    intro f
    cases hf : Tryz.prog.funcs[f]? with
    | none => rfl
    | some fn =>
      have := Array.any_eq_false'.1 noGo fn (Array.mem_of_getElem? hf)
      simpa using this
  have hg : ∀ f, Tryz.prog.goes f = false := by
    intro f
    unfold Program.goes
    rw [noGo, Bool.and_false, Bool.or_false, List.any_eq_false]
    intro g _
    rw [hn g]; simp
  unfold OpenClaim.goesBy Program.goesAt Program.goesFrom
  rw [show Rows.stateNamesRow.start = .entering from rfl]
  simp only [Bool.or_false]
  cases Tryz.prog.funcNamed Rows.stateNamesRow.func with
  | none => rfl
  | some f => simp [hg f]
theorem card_holds : Rows.StateNamesCardSaid :=
  Claim7.holds_tied_plain_at .later [] [.data, .data, .data, .pinned] true (true, "ac3953fb9b545c49e9f0f6e70d0695b5f1edd34902579469c4fb59b4f99767d3") true
    stateNames_holds (fun _ h => by cases h) wf3 (fun _ h => by cases h) stateNames_row_tie rfl ⟨rfl, rfl⟩ main3 rfl
    (fun f fn hf hfn => by
      obtain rfl : f = 3 := (Option.some.inj (fname.symm.trans hf)).symm
      obtain rfl : fn = f3 := (Option.some.inj (func3.symm.trans hfn)).symm
      exact ⟨looks3, fun j t ht => by rw [params3] at ht; simp at ht⟩)
    goes3
#print axioms card_holds
end Go.Proofs.YtidopoemgmbogaaGreatDoor
