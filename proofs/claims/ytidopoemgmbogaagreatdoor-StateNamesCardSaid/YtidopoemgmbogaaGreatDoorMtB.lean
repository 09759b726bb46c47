/- A way to reckon with the model (part 2 of 4): an abstract heap, what the program comes to on it, and the proof that what is reckoned so holds of every run of the model. -/
import Derived.Laws.Externs
import Derived.Lib.Bytealg
import Derived.RangeFuncLeaves
import Derived.RangeFuncNested
import Derived.RangeFuncRecord
import Derived.Test.YtidopoemgmbogaaGreatDoorMtA
/- Abstract operations, part 10: delete, clear, len, min, max; iterators. -/
namespace Go.Mt
variable {P : Program} {w0 : Base} {w w' : World} {ρ : Ren} {H : AH}

def unitV : Value := .tuple ⟨[]⟩
noncomputable def aDelete (P : Program) (H : AH) (t : TypeId) (m k : Value) : OV :=
  match P.underlying t, m with
  | some (.map kt _), .map none => if closed k then (match pureRun P (Instr.checkKey true 10000 kt k) with
      | some (.ok ()) => some (unitV, H)
      | _ => none) else none
  | some (.map kt _), .map (some r) => if closed k && (P.underlying kt).isSome then (match mapOf H r with
      | some (es, c) => match pureRun P (Instr.checkKey es.isEmpty 10000 kt k) with
        | some (.ok ()) => match aFind P kt k es.toList 0 with
          | some (some (i, _)) => some (unitV, H.set r (.obj (.map ⟨es.toList.eraseIdx i⟩ c)))
          | some none => some (unitV, H)
          | none => none
        | _ => none
      | none => none) else none
  | _, _ => none
theorem MERL.eraseIdx {es es' : List MapEntry} (i : Nat) (h : MERL ρ es es') : MERL ρ (es.eraseIdx i) (es'.eraseIdx i) := by
  induction es generalizing es' i with
  | nil => simp only [MERL] at h; subst h; simp [MERL]
  | cons e es ih =>
    obtain ⟨e', t', h1, h2, rfl⟩ := h
    cases i with
    | zero => simpa using h2
    | succ i => exact ⟨e', _, h1, ih i h2, by simp⟩
theorem aDelete_sim (h : HR P w0 ρ H w) {t t2 type : TypeId} {m m' k k' : Value} {r : Value × AH} (hm : VR ρ m m') (hk : VR ρ k k') (hr : aDelete P H t m k = some r) :
    SV P w0 ρ (Builtin.delete_ #[t, t2] type #[m', k']) w r := by
  unfold aDelete at hr
  split at hr <;> try cases hr
  · rename_i kt et hu
    cases (show m' = .map none by simpa only [VR] using hm)
    split at hr <;> try cases hr
    rename_i hc
    cases VR.eq_of_closed hc hk
    split at hr <;> cases hr
    rename_i hck
    refine SV.pure (v' := unitV) h ?_ (by simp [unitV, VR, VRL])
    simp only [Builtin.delete_, List.getElem?_toArray, List.getElem?_cons_zero, List.getElem?_cons_succ, Sem.run_bind, run_underlying hu, Result.andThen_ok, pureRun_ok hck w]; rfl
  · rename_i kt et r hu
    split at hr <;> try cases hr
    rename_i hc
    simp only [Bool.and_eq_true] at hc
    cases VR.eq_of_closed hc.1 hk
    split at hr <;> try cases hr
    rename_i es c hmo
    split at hr <;> try cases hr
    rename_i hck
    obtain ⟨l, hl, _, rfl⟩ := hm.map_inv
    obtain ⟨es', h1, h2⟩ := h.map hl hmo
    have hemp : es'.isEmpty = es.isEmpty := by
      have := h2.length
      simp only [Array.length_toList] at this
      simp only [Array.isEmpty, this]
    have hpre : (Builtin.delete_ #[t, t2] type #[.map (some l.blk), k]).run P w = ((do
        match ← Instr.findKey kt k es'.toList with
        | some (i, _) => setObj l.blk (.map (es'.eraseIdxIfInBounds i) c)
        | none => setObj l.blk (.map es' c) : Sem Unit).run P w).andThen fun _ w' => .ok (.tuple #[]) w' := by
      simp only [Builtin.delete_, List.getElem?_toArray, List.getElem?_cons_zero, List.getElem?_cons_succ, Sem.run_bind, run_underlying hu, Result.andThen_ok, run_getObj_at h1 rfl]
      rw [hemp, pureRun_ok hck w]
      simp only [Result.andThen_ok]
      cases (Instr.findKey kt k es'.toList).run P w with
      | ok a w' => rcases a with _ | ⟨i, u⟩ <;> simp []
      | halt x w' => rfl
    split at hr <;> try cases hr
    · rename_i i u hf
      obtain ⟨r', s1, s2⟩ := aFind_sim hc.2 h2 hf w
      cases r' with
      | none => exact s2.elim
      | some p =>
        obtain ⟨j, u'⟩ := p
        obtain ⟨rfl, _⟩ := s2
        have herase : es'.eraseIdxIfInBounds i = ⟨es'.toList.eraseIdx i⟩ := by
          obtain ⟨l⟩ := es'; simp
        obtain ⟨w', t1, t3⟩ := setObj_sim (P := P) h hl (mapOf_spec hmo) (y := .map ⟨es.toList.eraseIdx i⟩ c) (y' := .map ⟨es'.toList.eraseIdx i⟩ c) ⟨_, h2.eraseIdx i, rfl⟩
        refine ⟨.tuple #[], w', ρ, ?_, Ren.le_refl ρ, t3, by simp [unitV, VR, VRL]⟩
        rw [hpre]
        simp only [Sem.run_bind, s1, Result.andThen_ok, herase, t1]
    · rename_i hf
      obtain ⟨r', s1, s2⟩ := aFind_sim hc.2 h2 hf w
      cases r' with
      | some p => exact s2.elim
      | none =>
        obtain ⟨w', t1, t3⟩ := setObj_sim (P := P) h hl (mapOf_spec hmo) (y := .map es c) (y' := .map es' c) ⟨_, h2, rfl⟩
        rw [AH.set_self (mapOf_spec hmo)] at t3
        refine ⟨.tuple #[], w', ρ, ?_, Ren.le_refl ρ, t3, by simp [unitV, VR, VRL]⟩
        rw [hpre]
        simp only [Sem.run_bind, s1, Result.andThen_ok, t1]

noncomputable def aClear (P : Program) (H : AH) (t : TypeId) (x : Value) : OV :=
  match P.underlying t, x with
  | some _, .map none | some _, .slice none _ _ => some (unitV, H)
  | some (.map _ _), .map (some r) => match mapOf H r with
    | some (_, c) => some (unitV, H.set r (.obj (.map #[] c)))
    | none => none
  | some (.slice e), .slice (some a) n _ => if n = 0 then some (unitV, H) else match aZero P e, H.get a.block with
    | some (s, z), some (.arr c e' false) => if a.off + n * s ≤ c.length ∧ z.all Value.oneCell' = true then
        some (unitV, H.set a.block (.arr (c.take a.off ++ zeros z n ++ c.drop (a.off + n * s)) e' false)) else none
    | _, _ => none
  | _, _ => none
theorem zeros_oneCell {z : List Value} (n : Nat) (h : z.all Value.oneCell' = true) : (zeros z n).all Value.oneCell' = true := by
  induction n with
  | zero => rfl
  | succ n ih => simp only [zeros, List.replicate_succ, List.flatten_cons, List.all_append, h, Bool.true_and] at *; exact ih
theorem aClear_sim (h : HR P w0 ρ H w) {t type : TypeId} {x x' : Value} {r : Value × AH} (hx : VR ρ x x') (hr : aClear P H t x = some r) : SV P w0 ρ (Builtin.clear_ #[t] type #[x']) w r := by
  have hu0 : VR ρ unitV (.tuple #[]) := by simp [unitV, VR, VRL]
  unfold aClear at hr
  split at hr <;> try cases hr
  · rename_i d hu
    cases (show x' = .map none by simpa only [VR] using hx)
    refine SV.pure h ?_ hu0
    simp only [Builtin.clear_, List.getElem?_toArray, List.getElem?_cons_zero, Sem.run_bind, run_underlying hu, Result.andThen_ok]; rfl
  · rename_i d n k hu
    obtain ⟨rfl, rfl⟩ := hx.slice_none_inv
    refine SV.pure h ?_ hu0
    simp only [Builtin.clear_, List.getElem?_toArray, List.getElem?_cons_zero, Sem.run_bind, run_underlying hu, Result.andThen_ok]; rfl
  · rename_i kt et r hu
    split at hr <;> cases hr
    rename_i es c hmo
    obtain ⟨l, hl, _, rfl⟩ := hx.map_inv
    obtain ⟨es', h1, h2⟩ := h.map hl hmo
    obtain ⟨w', t1, t3⟩ := setObj_sim (P := P) h hl (mapOf_spec hmo) (y := .map #[] c) (y' := .map #[] c) ⟨#[], by simp [MERL], rfl⟩
    refine ⟨.tuple #[], w', ρ, ?_, Ren.le_refl ρ, t3, hu0⟩
    simp only [Builtin.clear_, List.getElem?_toArray, List.getElem?_cons_zero, Sem.run_bind, run_underlying hu, Result.andThen_ok, run_getObj_at h1 rfl, t1, Sem.run_pure]
  · rename_i e a n k hu
    obtain ⟨b, cap, hs, rfl⟩ := hx.slice_inv
    split at hr
    · rename_i h0; subst h0; cases hr
      refine SV.pure h ?_ hu0
      simp only [Builtin.clear_, List.getElem?_toArray, List.getElem?_cons_zero, Sem.run_bind, run_underlying hu, Result.andThen_ok]; rfl
    · rename_i h0
      split at hr <;> try cases hr
      rename_i s z c e' hz hg
      split at hr <;> cases hr
      rename_i hc
      obtain ⟨d, zv, hd, hzv, hsz, hzc, hzl, hzr⟩ := aZero_spec (ρ := ρ) hz
      obtain ⟨l, hl, rfl⟩ := hs.addr h0
      have hlen : (zeros z n).length = n * s := by rw [zeros_length, hzl]
      obtain ⟨w', s1, s2⟩ := store_sim (P := P) h hl hg (o := a.off) (by rw [hlen]; exact hc.1) (hzr.zeros n) (zeros_oneCell n hc.2)
      rw [hlen] at s2
      refine ⟨.tuple #[], w', ρ, ?_, Ren.le_refl ρ, s2, hu0⟩
      have hn : ∃ m, n = m + 1 := ⟨n - 1, by omega⟩
      obtain ⟨m, rfl⟩ := hn
      simp only [Builtin.clear_, List.getElem?_toArray, List.getElem?_cons_zero, Sem.run_bind, run_underlying hu, Result.andThen_ok, run_zeroValue hd hzv, hzc, zeroCells_eq, s1, Sem.run_pure]

noncomputable def aLenB (P : Program) (H : AH) (t : TypeId) (x : Value) : Option Value :=
  match P.underlying t, x with
  | some .string, .string s => some (.int .i64 s.size)
  | some (.slice _), .slice _ n _ => some (.int .i64 n)
  | some (.array n _), _ => some (.int .i64 n)
  | some (.map _ _), .map none => some (.int .i64 0)
  | some (.map _ _), .map (some r) => (mapOf H r).map fun q => .int .i64 q.1.size
  | _, _ => none
theorem aLenB_sim (h : HR P w0 ρ H w) {t type : TypeId} {x x' v : Value} (hx : VR ρ x x') (hr : aLenB P H t x = some v) : ∃ v', (Builtin.len_ #[t] type #[x']).run P w = .ok v' w ∧ VR ρ v v' := by
  unfold aLenB at hr
  split at hr <;> try cases hr
  all_goals rename_i hu
  · cases hx.string_inv
    refine ⟨_, ?_, by simp only [VR]; rfl⟩
    simp only [Builtin.len_, List.getElem?_toArray, List.getElem?_cons_zero, Sem.run_bind, run_underlying hu, Result.andThen_ok]; rfl
  · obtain ⟨b, c, rfl, _⟩ := hx.slice_shape
    refine ⟨_, ?_, by simp only [VR]; rfl⟩
    simp only [Builtin.len_, List.getElem?_toArray, List.getElem?_cons_zero, Sem.run_bind, run_underlying hu, Result.andThen_ok]; rfl
  · refine ⟨_, ?_, by simp only [VR]; rfl⟩
    simp only [Builtin.len_, List.getElem?_toArray, List.getElem?_cons_zero, Sem.run_bind, run_underlying hu, Result.andThen_ok]; rfl
  · cases (show x' = .map none by simpa only [VR] using hx)
    refine ⟨_, ?_, by simp only [VR]; rfl⟩
    simp only [Builtin.len_, List.getElem?_toArray, List.getElem?_cons_zero, Sem.run_bind, run_underlying hu, Result.andThen_ok]; rfl
  · rw [Option.map_eq_some_iff] at hr
    obtain ⟨q, hq, rfl⟩ := hr
    obtain ⟨es, c⟩ := q
    obtain ⟨l, hl, _, rfl⟩ := hx.map_inv
    obtain ⟨es', h1, h2⟩ := h.map hl hq
    refine ⟨.int .i64 es'.size, ?_, by simp only [VR]; have := h2.length; simp at this; rw [this]⟩
    simp only [Builtin.len_, List.getElem?_toArray, List.getElem?_cons_zero, Sem.run_bind, run_underlying hu, Result.andThen_ok, run_getObj_at h1 rfl]; rfl

/-! iterators -/
noncomputable def aRange (P : Program) (H : AH) (t : TypeId) (x : Value) : OV :=
  match P.underlying t, x with
  | some .string, .string s => some (ptr H.next 0, H.new (.obj (.stringIter s 0)))
  | some (.map _ _), .map none => some (ptr H.next 0, H.new (.obj (.mapIter none 0 #[] 0)))
  | some (.map _ _), .map (some m) => (mapOf H m).map fun q => (ptr H.next 0, H.new (.obj (.mapIter (some m) q.2 #[] q.2)))
  | _, _ => none
theorem VR.mk_ptr0 {b : Nat} {l : Loc} (h : ρ b = some l) (hb : l.base = 0) : VR ρ (ptr b 0) (.pointer (some ⟨l.blk, 0, none⟩)) := by
  have := VR.mk_ptr (o := 0) h
  rwa [hb] at this
theorem aRange_sim (h : HR P w0 ρ H w) {t : TypeId} {x x' : Value} {r : Value × AH} (hx : VR ρ x x') (hr : aRange P H t x = some r) : SV P w0 ρ (Instr.range t x') w r := by
  unfold aRange at hr
  split at hr <;> try cases hr
  · rename_i s hu
    cases hx.string_inv
    obtain ⟨l, s1, s2, s3, s4⟩ := newObj_sim (P := P) h (y := .stringIter s 0) (y' := .stringIter s 0) rfl
    refine ⟨_, _, _, ?_, s3, s4, VR.mk_ptr0 (Ren.upd_same _ _ _) s2⟩
    simp only [Instr.range, Sem.run_bind, run_underlying hu, Result.andThen_ok, Sem.run_pure, s1]
  · rename_i kt et hu
    cases (show x' = .map none by simpa only [VR] using hx)
    obtain ⟨l, s1, s2, s3, s4⟩ := newObj_sim (P := P) h (y := .mapIter none 0 #[] 0) (y' := .mapIter none 0 #[] 0) rfl
    refine ⟨_, _, _, ?_, s3, s4, VR.mk_ptr0 (Ren.upd_same _ _ _) s2⟩
    simp only [Instr.range, Sem.run_bind, run_underlying hu, Result.andThen_ok, Sem.run_pure, s1]
  · rename_i kt et m hu
    rw [Option.map_eq_some_iff] at hr
    obtain ⟨q, hq, rfl⟩ := hr
    obtain ⟨es, c⟩ := q
    obtain ⟨lm, hlm, hlb, rfl⟩ := hx.map_inv
    obtain ⟨es', h1, h2⟩ := h.map hlm hq
    obtain ⟨l, s1, s2, s3, s4⟩ := newObj_sim (P := P) h (y := .mapIter (some m) c #[] c) (y' := .mapIter (some lm.blk) c #[] c) ⟨lm, hlm, hlb, rfl⟩
    refine ⟨_, _, _, ?_, s3, s4, VR.mk_ptr0 (Ren.upd_same _ _ _) s2⟩
    simp only [Instr.range, Sem.run_bind, run_underlying hu, Result.andThen_ok, run_getObj_at h1 rfl, Sem.run_pure, s1]

def overV : Value := .tuple ⟨[.bool false]⟩
/-- what a map's iterator may come to next. -/
def aCands (es : Array MapEntry) (since : Nat) (seen : Array Nat) : List (Option MapEntry) :=
  let left := es.toList.filter fun e => !seen.contains e.born
  let old := left.filter (·.born < since)
  let new := left.filter (·.born ≥ since)
  (if old.isEmpty then [none] else []) ++ (old ++ new).map some
noncomputable def aNext (H : AH) (it : Value) (isString : Bool) : Option (List (Value × AH)) :=
  match it with
  | .pointer (some a) => if a.off ≠ 0 then none else match H.get a.block, isString with
    | some (.obj (.stringIter s pos)), true => if pos < s.size then
        some [(.tuple ⟨[.bool true, .int .i64 pos, .int .i32 (Utf8.decode s pos).1]⟩, H.set a.block (.obj (.stringIter s (pos + (Utf8.decode s pos).2))))]
      else some [(overV, H)]
    | some (.obj (.mapIter none _ _ _)), false => some [(overV, H)]
    | some (.obj (.mapIter (some m) since seen last)), false => match mapOf H m with
      | some (es, c) => if !seen.isEmpty && !es.isEmpty && es.all (·.born ≥ last) then none else
          some ((aCands es since seen).map fun
            | some e => (.tuple ⟨[.bool true, e.key, e.val]⟩, H.set a.block (.obj (.mapIter (some m) since (seen.push e.born) c)))
            | none => (overV, H))
      | none => none
    | _, _ => none
  | _ => none
theorem MERL.filterBorn {es es' : List MapEntry} (h : MERL ρ es es') (f : Nat → Bool) : MERL ρ (es.filter fun e => f e.born) (es'.filter fun e => f e.born) := by
  induction es generalizing es' with
  | nil => simp only [MERL] at h; subst h; simp [MERL]
  | cons e es ih =>
    obtain ⟨e', t', h1, h2, rfl⟩ := h
    simp only [List.filter_cons, h1.born]
    split
    · exact ⟨e', _, h1, ih h2, rfl⟩
    · exact ih h2
theorem MERL.append {es es' fs fs' : List MapEntry} (h : MERL ρ es es') (h' : MERL ρ fs fs') : MERL ρ (es ++ fs) (es' ++ fs') := by
  induction es generalizing es' with
  | nil => simp only [MERL] at h; subst h; simpa using h'
  | cons e es ih => obtain ⟨e', t', h1, h2, rfl⟩ := h; exact ⟨e', _, h1, ih h2, rfl⟩
/-- a step of an iterator: some of the abstract steps stands for it. -/
theorem aNext_sim (h : HR P w0 ρ H w) {it it' : Value} {b : Bool} {type : TypeId} {l : List (Value × AH)} (hi : VR ρ it it') (hr : aNext H it b = some l) : ∃ r ∈ l, SV P w0 ρ (Instr.next it' b type) w r := by
  unfold aNext at hr
  split at hr <;> try cases hr
  rename_i a
  obtain ⟨lo, hl, _, rfl⟩ := hi.ptr_some
  split at hr <;> try cases hr
  rename_i hoff
  have hoff : a.off = 0 := Classical.not_not.1 hoff
  have hover : VR ρ overV (.tuple #[.bool false]) := by simp [overV, VR, VRL]
  split at hr <;> try cases hr
  · rename_i s pos hg
    obtain ⟨o', h1, ho, hb⟩ := h.obj hl hg
    cases ho
    split at hr <;> cases hr
    · rename_i hlt
      obtain ⟨w', t1, t2⟩ := setObj_sim (P := P) h hl hg (y := .stringIter s (pos + (Utf8.decode s pos).2)) (y' := .stringIter s (pos + (Utf8.decode s pos).2)) rfl
      refine ⟨_, List.mem_singleton.2 rfl, .tuple #[.bool true, goInt pos, .int .i32 (Utf8.decode s pos).1], w', ρ, ?_, Ren.le_refl ρ, t2, ?_⟩
      · simp only [Instr.next, hb, hoff, Nat.add_zero, Sem.run_bind, run_getObj_at h1 rfl, Result.andThen_ok, hlt, if_true, t1, Sem.run_pure]
      · simp only [VR]
        exact ⟨_, VRL.cons (by simp [VR]) (VRL.cons (by simp [VR, goInt]) (VRL.cons (by simp [VR]) (by simp [VRL]))), rfl⟩
    · rename_i hlt
      refine ⟨_, List.mem_singleton.2 rfl, SV.pure h ?_ hover⟩
      simp only [Instr.next, hb, hoff, Nat.add_zero, Sem.run_bind, run_getObj_at h1 rfl, Result.andThen_ok, hlt, if_false, Sem.run_pure]
  · rename_i hg
    obtain ⟨o', h1, ho, hb⟩ := h.obj hl hg
    cases ho
    refine ⟨_, List.mem_singleton.2 rfl, SV.pure h ?_ hover⟩
    simp only [Instr.next, hb, hoff, Nat.add_zero, Sem.run_bind, run_getObj_at h1 rfl, Result.andThen_ok, Sem.run_pure]
  · rename_i m since seen last hg
    obtain ⟨o', h1, ⟨lm, hlm, hlmb, rfl⟩, hb⟩ := h.obj hl hg
    split at hr <;> try cases hr
    rename_i es c hmo
    obtain ⟨es', g1, g2⟩ := h.map hlm hmo
    split at hr <;> cases hr
    rename_i hst
    have hlen : es'.size = es.size := by have := g2.length; simpa using this.symm
    have hst' : (!seen.isEmpty && !es'.isEmpty && es'.all (·.born ≥ last)) = false := by
      have e1 : es'.isEmpty = es.isEmpty := by simp only [Array.isEmpty, hlen]
      have e2 : es'.all (fun e => decide (e.born ≥ last)) = es.all (fun e => decide (e.born ≥ last)) := by
        rw [← Array.all_toList, ← Array.all_toList]
        clear hst hmo g1 hlen e1
        revert g2
        generalize es.toList = a; generalize es'.toList = b
        intro g2
        induction a generalizing b with
        | nil => simp only [MERL] at g2; subst g2; rfl
        | cons e a ih => obtain ⟨e', t', q1, q2, rfl⟩ := g2; simp only [List.all_cons, q1.born, ih _ q2]
      rw [e1, e2]; simpa using hst
    obtain ⟨es'⟩ := es'
    obtain ⟨es⟩ := es
    simp only at g2 hst'
    have hleft : MERL ρ (es.filter fun e => !seen.contains e.born) (es'.filter fun e => !seen.contains e.born) := g2.filterBorn fun b => !seen.contains b
    have hold := hleft.filterBorn fun b => decide (b < since)
    have hnew := hleft.filterBorn fun b => decide (b ≥ since)
    generalize hL : (es.filter fun e => !seen.contains e.born) = L at hleft hold hnew
    generalize hL' : (es'.filter fun e => !seen.contains e.born) = L' at hleft hold hnew
    have hcand : aCands ⟨es⟩ since seen = (if (L.filter fun e => decide (e.born < since)).isEmpty then [none] else []) ++ ((L.filter fun e => decide (e.born < since)) ++ (L.filter fun e => decide (e.born ≥ since))).map some := by
      simp only [aCands, hL]
    generalize hA : (L.filter fun e => decide (e.born < since)) = A at hold hcand
    generalize hB : (L.filter fun e => decide (e.born ≥ since)) = B at hnew hcand
    generalize hA' : (L'.filter fun e => decide (e.born < since)) = A' at hold
    generalize hB' : (L'.filter fun e => decide (e.born ≥ since)) = B' at hnew
    have hemp : A'.isEmpty = A.isEmpty := by
      have := hold.length
      cases A <;> cases A' <;> simp_all
    have hcc : ((if ((⟨es'⟩ : Array MapEntry).filter fun e => !seen.contains e.born).filter (fun e => decide (e.born < since)) |>.isEmpty then #[none] else #[]) ++
        (((⟨es'⟩ : Array MapEntry).filter fun e => !seen.contains e.born).filter (fun e => decide (e.born < since)) ++ ((⟨es'⟩ : Array MapEntry).filter fun e => !seen.contains e.born).filter (fun e => decide (e.born ≥ since))).map some : Array (Option MapEntry)) =
        ⟨(if A.isEmpty then [none] else []) ++ (A' ++ B').map some⟩ := by
      simp only [List.filter_toArray, hL', hA', hB']
      rw [← hemp]
      cases A' <;> simp
    have hrun : ∃ i q, i < ((if A.isEmpty then [none] else []) ++ (A' ++ B').map some).length ∧ (q = w ∨ q = { w with drawn := w.drawn + 1 }) ∧
        (choose (.mapNext ((if A.isEmpty then [none] else []) ++ (A' ++ B').map some).length)).run P w = .ok i q := by
      have hpos : 0 < ((if A.isEmpty then [none] else []) ++ (A' ++ B').map some : List (Option MapEntry)).length := by
        rw [← hemp]; cases A' <;> simp
      generalize ((if A.isEmpty then [none] else []) ++ (A' ++ B').map some : List (Option MapEntry)).length = n at hpos
      rw [run_choose]
      by_cases hf : n ≤ 1
      · exact ⟨0, w, hpos, .inl rfl, by simp [Question.forced, hf]⟩
      · exact ⟨(Question.mapNext n).cut (w.tape w.drawn (.mapNext n)), { w with drawn := w.drawn + 1 }, Nat.mod_lt _ hpos, .inr rfl, by simp only [Question.forced, hf, decide_false, Bool.false_eq_true, if_false]⟩
    obtain ⟨i, q, hi1, hq, hi2⟩ := hrun
    have hqs : HR P w0 ρ H q := by rcases hq with rfl | rfl; exact h; exact h.same rfl rfl rfl rfl
    have hqh : q.heap = w.heap := by rcases hq with rfl | rfl <;> rfl
    have hprog : (Instr.next (.pointer (some ⟨lo.blk, 0, none⟩)) false type).run P w =
        ((match ((if A.isEmpty then [none] else []) ++ (A' ++ B').map some)[i]? with
          | some (some e) => do
            setObj lo.blk (.mapIter (some lm.blk) since (seen.push e.born) c)
            pure (.tuple #[.bool true, e.key, e.val])
          | some none => pure (.tuple #[.bool false])
          | none => stuck "Next: no such candidate" : Sem Value)).run P q := by
      simp only [Instr.next, Sem.run_bind, run_getObj_at h1 rfl, Result.andThen_ok, run_getObj_at g1 rfl, hst', Bool.false_eq_true, if_false]
      rw [hcc]
      simp only [List.size_toArray, hi2, Result.andThen_ok, List.getElem?_toArray]
      generalize ((if A.isEmpty = true then [none] else []) ++ List.map some (A' ++ B') : List (Option MapEntry))[i]? = z
      rcases z with _ | (_ | e) <;> rfl
    rw [hb, hoff]
    simp only [Nat.add_zero]
    rcases hx : ((if A.isEmpty then [none] else []) ++ (A' ++ B').map some)[i]? with _ | (_ | e')
    · rw [List.getElem?_eq_none_iff] at hx; omega
    · -- over
      refine ⟨(overV, H), ?_, _, q, ρ, ?_, Ren.le_refl ρ, hqs, hover⟩
      · rw [List.mem_map]
        refine ⟨none, ?_, rfl⟩
        rw [hcand]
        have := List.mem_of_getElem? hx
        rw [List.mem_append] at this ⊢
        rcases this with h | h
        · exact .inl h
        · simp at h
      · rw [hprog, hx]; rfl
    · have hmem : e' ∈ A' ++ B' := by
        have := List.mem_of_getElem? hx
        rw [List.mem_append] at this
        rcases this with h | h
        · split at h <;> simp at h
        · simpa using h
      obtain ⟨j, hj, hje⟩ := List.mem_iff_getElem.1 hmem
      have hap := hold.append hnew
      have hjl : j < (A ++ B).length := by rw [hap.length]; exact hj
      have hee := (MERL.iff.1 hap).2 j _ _ (List.getElem?_eq_getElem hjl) (List.getElem?_eq_getElem hj)
      rw [hje] at hee
      obtain ⟨w', t1, t2⟩ := setObj_sim (P := P) hqs hl hg (y := .mapIter (some m) since (seen.push ((A ++ B)[j]).born) c) (y' := .mapIter (some lm.blk) since (seen.push e'.born) c) ⟨lm, hlm, hlmb, by rw [hee.born]⟩
      refine ⟨(.tuple ⟨[.bool true, ((A ++ B)[j]).key, ((A ++ B)[j]).val]⟩, H.set a.block (.obj (.mapIter (some m) since (seen.push ((A ++ B)[j]).born) c))), ?_, .tuple #[.bool true, e'.key, e'.val], w', ρ, ?_, Ren.le_refl ρ, t2, ?_⟩
      · rw [List.mem_map]
        refine ⟨some (A ++ B)[j], ?_, rfl⟩
        rw [hcand, List.mem_append]
        exact .inr (List.mem_map.2 ⟨_, List.getElem_mem hjl, rfl⟩)
      · rw [hprog, hx]
        simp only [Sem.run_bind, t1, Result.andThen_ok, Sem.run_pure]
      · simp only [VR]
        exact ⟨_, VRL.cons (by simp [VR]) (VRL.cons hee.key (VRL.cons hee.val (by simp [VRL]))), rfl⟩

noncomputable def aEntry (H : AH) (it : Value) : Option Value :=
  match it with
  | .pointer (some a) => if a.off ≠ 0 then none else match H.get a.block with
    | some (.obj (.mapIter (some m) _ seen stepped)) => match seen.back?, mapOf H m with
      | some stamp, some (es, c) => if c ≠ stepped then none else (es.toList.find? (·.born == stamp)).map fun e => .tuple ⟨[e.key, e.val]⟩
      | _, _ => none
    | _ => none
  | _ => none
theorem MERL.find {es es' : List MapEntry} (h : MERL ρ es es') (n : Nat) {e : MapEntry} (he : es.find? (·.born == n) = some e) : ∃ e', es'.find? (·.born == n) = some e' ∧ MER ρ e e' := by
  induction es generalizing es' with
  | nil => simp at he
  | cons x xs ih =>
    obtain ⟨x', t', h1, h2, rfl⟩ := h
    rw [List.find?_cons] at he ⊢
    rw [← h1.born]
    split at he
    · cases he; exact ⟨x', rfl, h1⟩
    · exact ih h2 he
theorem aEntry_sim (h : HR P w0 ρ H w) {it it' v : Value} (hi : VR ρ it it') (hr : aEntry H it = some v) : ∃ v', (Instr.entry it').run P w = .ok v' w ∧ VR ρ v v' := by
  unfold aEntry at hr
  split at hr <;> try cases hr
  rename_i a
  obtain ⟨lo, hl, _, rfl⟩ := hi.ptr_some
  split at hr <;> try cases hr
  rename_i hoff
  have hoff : a.off = 0 := Classical.not_not.1 hoff
  split at hr <;> try cases hr
  rename_i m since seen stepped hg
  obtain ⟨o', h1, ⟨lm, hlm, hlmb, rfl⟩, hb⟩ := h.obj hl hg
  split at hr <;> try cases hr
  rename_i stamp es c hs hmo
  obtain ⟨es', g1, g2⟩ := h.map hlm hmo
  split at hr <;> try cases hr
  rename_i hc
  have hc : c = stepped := Classical.not_not.1 hc
  rw [Option.map_eq_some_iff] at hr
  obtain ⟨e, he, rfl⟩ := hr
  obtain ⟨e', he', hee⟩ := g2.find stamp he
  have hf : es'.find? (fun e => e.born == stamp) = some e' := by rw [← Array.find?_toList]; exact he'
  refine ⟨.tuple #[e'.key, e'.val], ?_, by simp only [VR]; exact ⟨_, VRL.cons hee.key (VRL.cons hee.val (by simp [VRL])), rfl⟩⟩
  subst hc
  rw [hb, hoff]
  simp only [Instr.entry, Nat.add_zero, Sem.run_bind, run_getObj_at h1 rfl, Result.andThen_ok, hs, run_getObj_at g1 rfl, bne_self_eq_false, Bool.false_eq_true, if_false, hf, Sem.run_pure]
end Go.Mt
/- The model's entries without a body, on abstract heaps. -/
namespace Go.Mt
variable {P : Program} {w0 : Base} {w w' : World} {ρ : Ren} {H : AH}

noncomputable def aBytes (H : AH) (v : Value) : Option (List Int) :=
  match aLen v with
  | some n => match aCells H 1 n v with
    | some cs => bytesOf cs
    | none => none
  | none => none
theorem bytesOf_byteCells (s : ByteArray) {ns : List Int} (h : bytesOf (byteCells s) = some ns) : strOf ns = s := by
  have := bytesOf_eq h
  obtain ⟨⟨l⟩⟩ := s
  simp only [byteCells, strOf] at this ⊢
  congr 2
  clear h
  induction l generalizing ns with
  | nil => cases ns <;> simp_all
  | cons x l ih =>
    cases ns with
    | nil => simp at this
    | cons n ns =>
      simp only [List.map_cons, List.cons.injEq, Value.int.injEq, true_and] at this ⊢
      obtain ⟨h1, h2⟩ := this
      refine ⟨?_, ih h2⟩
      rw [← h1]; simp
theorem run_loadBytes {blk : Nat} {cs : Array Value} {e : TypeId} {fz : Nat × Nat} (h1 : w.heap[blk]? = some (.cells cs e fz)) : ∀ (ns : List Int) (off : Nat) (acc : ByteArray),
    (∀ (j : Nat) (x : Int), ns[j]? = some x → cs[off + j]? = some (.int .u8 x)) →
    (Extern.Bytes.loadBytes ⟨blk, off, none⟩ ns.length acc).run P w = .ok ⟨⟨acc.data.toList ++ ns.map fun n => UInt8.ofNat n.toNat⟩⟩ w
  | [], off, acc, _ => by simp [Extern.Bytes.loadBytes]
  | n :: ns, off, acc, h => by
    have h0 := h 0 n rfl
    have ih := run_loadBytes h1 ns (off + 1) (acc.push n.toNat.toUInt8) fun j x hj => by
      have := h (j + 1) x (by simpa using hj)
      rwa [show off + 1 + j = off + (j + 1) by omega]
    simp only [List.length_cons, Extern.Bytes.loadBytes, Sem.run_bind, run_load_at h1 (by simpa using h0) _, Result.andThen_ok, addr_add, ih]
    simp [ByteArray.push]
theorem aBytes_sim (h : HR P w0 ρ H w) {v v' : Value} (hv : VR ρ v v') {ns : List Int} (hr : aBytes H v = some ns) : (Extern.Bytes.bytesOf v').run P w = .ok (strOf ns) w := by
  unfold aBytes at hr
  split at hr <;> try cases hr
  rename_i n hn
  split at hr <;> try cases hr
  rename_i cs hcs
  rcases v with b | ⟨k, i⟩ | ⟨k, i⟩ | ⟨k, i, j⟩ | s | a | ⟨a, n', k⟩ | m | c | ⟨f, x, y⟩ | _ | ⟨ty, u⟩ | _ | xs | xs
  case slice =>
    obtain rfl : n' = n := by simpa [aLen] using hn
    cases a with
    | none =>
      obtain ⟨hz, rfl⟩ := hv.slice_none_inv
      subst hz
      simp only [aCells] at hcs
      cases hcs
      cases hr
      rfl
    | some a =>
      obtain ⟨b, c', hs, rfl⟩ := hv.slice_inv
      simp only [aCells] at hcs
      split at hcs
      · rename_i hz
        cases hcs; cases hr; subst hz
        rfl
      · rename_i hz
        split at hcs <;> try cases hcs
        split at hcs <;> try cases hcs
        rename_i c e ro hg
        split at hcs <;> cases hcs
        rename_i hlen
        obtain ⟨l, hl, rfl⟩ := hs.addr hz
        obtain ⟨cs, e', fz, i, h1, h2, h3, h4, h5, h6⟩ := h.arr hl hg
        have hb := bytesOf_eq hr
        have hlen' : ns.length = n' := by
          have := congrArg List.length hb
          simp only [List.length_take, List.length_drop, List.length_map] at this
          omega
        have key := run_loadBytes (P := P) h1 ns (l.base + a.off) .empty fun j x hj => by
          have hj' : ((c.drop a.off).take (n' * 1))[j]? = some (.int .u8 x) := by rw [hb]; simp [hj]
          rw [List.getElem?_take] at hj'
          split at hj'
          · rw [List.getElem?_drop] at hj'
            obtain ⟨y, q1, q2⟩ := h5.get hj'
            simp only [VR] at q2
            subst q2
            rw [List.getElem?_take] at q1
            split at q1
            · rw [List.getElem?_drop] at q1
              rw [Nat.add_assoc]
              simpa using q1
            · cases q1
          · cases hj'
        rw [hlen'] at key
        simp only [Extern.Bytes.bytesOf, key]
        simp [strOf]
  case string =>
    obtain rfl : s.size = n := by simpa [aLen] using hn
    cases hv.string_inv
    have : cs = byteCells s := by
      simp only [aCells, Option.some.injEq] at hcs
      rw [← hcs, List.take_of_length_le (by simp [byteCells])]
    subst this
    rw [bytesOf_byteCells s hr]
    rfl
  all_goals simp [aLen] at hn

def u8s (ns : List Int) : List UInt8 := ns.map fun n => UInt8.ofNat n.toNat
noncomputable def aExt (H : AH) (fn : Func) (args : List Value) : OV :=
  if fn.origin == "" then
    if fn.name == "internal/bytealg.Compare" then match args with
      | [a, b] => match aBytes H a, aBytes H b with
        | some x, some y => some (.int .i64 (Lib.compareBytes (u8s x) (u8s y)), H)
        | _, _ => none
      | _ => none
    else if fn.name == "internal/bytealg.IndexByte" || fn.name == "internal/bytealg.IndexByteString" then match args with
      | [a, .int .u8 c] => (aBytes H a).map fun x => (.int .i64 (Lib.indexByte (u8s x) c.toNat.toUInt8), H)
      | _ => none
    else if fn.name == "internal/bytealg.CountString" then match args with
      | [.string s, .int .u8 c] => some (.int .i64 (Lib.countByte s.data.toList c.toNat.toUInt8 : Nat), H)
      | _ => none
    else if fn.name == "maps.clone" then match args with
      | [.iface t (.map (some r))] => (mapOf H r).map fun q => (.iface t (.map (some H.next)), H.new (.obj (.map q.1 q.2)))
      | _ => none
    else none
  else none
theorem find_of {n : String} {fn : Func} (hn : fn.name = n) (ho : fn.origin = "") : Extern.findNext fn = ((Extern.allNextRows.lookup n).map (· fn.params fn.resultTypes) <|> (Extern.allNextRows.lookup "").map (· fn.params fn.resultTypes)) := by
  subst hn; rw [← ho]; rfl
theorem ext_sim (h : HR P w0 ρ H w) {f : FuncId} {fn : Func} (hf : P.funcs[f]? = some fn) (hb : fn.body = none) {args args' : List Value} (ha : VRL ρ args args') {r : Value × AH} (hr : aExt H fn args = some r) :
    ∃ e : Array Value → Sem Value, (callFunc f ⟨args'⟩).run P w = ((e ⟨args'⟩).run P w).andThen (fun v w' => .ok (.value v) w') ∧ SV P w0 ρ (e ⟨args'⟩) w r := by
  unfold aExt at hr
  split at hr <;> try cases hr
  rename_i ho
  have ho : fn.origin = "" := by simpa using ho
  have go : ∀ {n : String} {e : Array Value → Sem Value}, fn.name = n → (n == "runtime.NumGoroutine") = false → Extern.allNextRows.lookup n = none → (Extern.allRows.lookup n) = some e →
      (Extern.allGenericRows.lookup n).isNone = true → (Extern.allTypedRows.lookup n).isNone = true →
      (callFunc f ⟨args'⟩).run P w = ((e ⟨args'⟩).run P w).andThen (fun v w' => .ok (.value v) w') := by
    intro n e hn h1 h2 h3 h4 h5
    subst hn
    refine run_callFunc_extern hf h1 (by simp [hb]) ?_ ?_ _ _
    · have h0 : Extern.allNextRows.lookup "" = none := by kernel_rfl
      simp only [Extern.findNext, h2, ho, h0]; rfl
    · simp only [Option.isNone_iff_eq_none] at h4 h5
      simp only [Extern.find, h3, h4, h5]; rfl
  split at hr
  · rename_i hn
    have hn : fn.name = "internal/bytealg.Compare" := by simpa using hn
    split at hr <;> try cases hr
    rename_i a b
    split at hr <;> cases hr
    rename_i x y hx hy
    obtain ⟨a', b', rfl, q1, q2⟩ : ∃ a' b', args' = [a', b'] ∧ VR ρ a a' ∧ VR ρ b b' := by
      simp only [VRL] at ha; obtain ⟨a', t, h1, ⟨b', u, h2, rfl, rfl⟩, rfl⟩ := ha; exact ⟨a', b', rfl, h1, h2⟩
    refine ⟨Extern.BytealgCompare.compare, go hn (by kernel_rfl) (by kernel_rfl) (by kernel_rfl) (by kernel_rfl) (by kernel_rfl), ?_⟩
    refine SV.pure h (v' := .int .i64 (Lib.compareBytes (u8s x) (u8s y))) ?_ (by simp only [VR])
    change Sem.run P (do pure (goInt (Extern.BytealgCompare.cmp (← Extern.Bytes.bytesOf a') (← Extern.Bytes.bytesOf b')))) w = _
    simp only [Sem.run_bind, aBytes_sim h q1 hx, aBytes_sim h q2 hy, Result.andThen_ok, Sem.run_pure, Lib.cmp_eq]
    rfl
  · split at hr
    · rename_i hn
      split at hr <;> try cases hr
      rename_i a c
      rw [Option.map_eq_some_iff] at hr
      obtain ⟨x, hx, rfl⟩ := hr
      obtain ⟨a', rfl, q1⟩ : ∃ a', args' = [a', .int .u8 c] ∧ VR ρ a a' := by
        simp only [VRL, VR] at ha; obtain ⟨a', t, h1, ⟨b', u, rfl, rfl, rfl⟩, rfl⟩ := ha; exact ⟨a', rfl, h1⟩
      refine ⟨Extern.BytealgIndexByte.indexByte, ?_, ?_⟩
      · rcases (by simpa using hn : fn.name = "internal/bytealg.IndexByte" ∨ fn.name = "internal/bytealg.IndexByteString") with hn | hn
        · exact go hn (by kernel_rfl) (by kernel_rfl) (by kernel_rfl) (by kernel_rfl) (by kernel_rfl)
        · exact go hn (by kernel_rfl) (by kernel_rfl) (by kernel_rfl) (by kernel_rfl) (by kernel_rfl)
      refine SV.pure h (v' := .int .i64 (Lib.indexByte (u8s x) c.toNat.toUInt8)) ?_ (by simp only [VR])
      have hs := Lib.run_indexByteString (P := P) (strOf x) c w
      change Sem.run P (do
        let b ← Extern.Bytes.bytesOf (.string (strOf x))
        let c ← Extern.Bytes.asByte (.int .u8 c)
        match (List.range b.size).find? fun i => b[i]! == c with
        | some i => pure (goInt i)
        | none => pure (goInt (-1))) w = _ at hs
      change Sem.run P (do
        let b ← Extern.Bytes.bytesOf a'
        let c ← Extern.Bytes.asByte (.int .u8 c)
        match (List.range b.size).find? fun i => b[i]! == c with
        | some i => pure (goInt i)
        | none => pure (goInt (-1))) w = _
      simp only [Sem.run_bind, aBytes_sim h q1 hx, Result.andThen_ok] at hs ⊢
      simp only [Extern.Bytes.bytesOf, Sem.run_pure, Result.andThen_ok] at hs
      rw [hs]
      simp [strOf, u8s]
    · split at hr
      · rename_i hn
        have hn : fn.name = "internal/bytealg.CountString" := by simpa using hn
        split at hr <;> cases hr
        rename_i s c
        obtain rfl : args' = [.string s, .int .u8 c] := by
          simp only [VRL, VR] at ha; obtain ⟨a', t, rfl, ⟨b', u, rfl, rfl, rfl⟩, rfl⟩ := ha; rfl
        refine ⟨Extern.BytealgCount.count, go hn (by kernel_rfl) (by kernel_rfl) (by kernel_rfl) (by kernel_rfl) (by kernel_rfl), ?_⟩
        exact SV.pure h (Lib.run_countString s c w) (by simp only [VR])
      · split at hr <;> try cases hr
        rename_i hn
        have hn : fn.name = "maps.clone" := by simpa using hn
        split at hr <;> try cases hr
        rename_i t r
        rw [Option.map_eq_some_iff] at hr
        obtain ⟨⟨es, k⟩, hm, rfl⟩ := hr
        obtain ⟨l, rfl, hl, hlb⟩ : ∃ l, args' = [.iface t (.map (some l.blk))] ∧ ρ r = some l ∧ l.base = 0 := by
          simp only [VRL, VR] at ha; obtain ⟨a', u, ⟨v', ⟨l, h1, h2, rfl⟩, rfl⟩, rfl, rfl⟩ := ha; exact ⟨l, rfl, h1, h2⟩
        refine ⟨Extern.MapsClone.clone, go hn (by kernel_rfl) (by kernel_rfl) (by kernel_rfl) (by kernel_rfl) (by kernel_rfl), ?_⟩
        obtain ⟨es', h1, h2⟩ := h.map hl hm
        obtain ⟨l2, s1, s2, s3, s4⟩ := newObj_sim (P := P) h (y := .map es k) (y' := .map es' k) ⟨es', h2, rfl⟩
        refine ⟨.iface t (.map (some l2.blk)), _, _, ?_, s3, s4, ?_⟩
        · change Sem.run P (getObj l.blk >>= fun o => match o with
            | .map entries clock => (newObj (.map entries clock) >>= fun n => pure (Value.iface t (.map (some n))))
            | _ => stuck "maps.clone: a map expected") w = _
          simp only [Sem.run_bind, run_getObj_at h1 rfl, Result.andThen_ok, s1, Sem.run_pure]
        · simp only [VR]
          exact ⟨_, ⟨l2, Ren.upd_same _ _ _, s2, rfl⟩, rfl⟩
end Go.Mt
/- Every operation of the code over the abstract heap, and that the model's own comes to what it says. -/
namespace Go.Mt
variable {P : Program} {w0 : Base} {w w' : World} {ρ : Ren} {H : AH}

inductive ARes where
  | vals (l : List (Value × AH))
  | skip (H : AH)
  | enter (f : FuncId) (args : List Value) (H : AH)
  | round (l : Nat) (args : List Value) (H : AH)
  | pan (v : Value) (H : AH)
  | dfr (d : Deferred) (H : AH)
  | stuck

def DfR (ρ : Ren) (d d' : Deferred) : Prop :=
  match d with
  | ⟨.fn (.func f) cap, args⟩ => ∃ cap' args', VRL ρ cap.toList cap' ∧ VRL ρ args.toList args' ∧ d' = ⟨.fn (.func f) ⟨cap'⟩, ⟨args'⟩⟩
  | ⟨.collected r, _⟩ => ∃ l, ρ r = some l ∧ l.base = 0 ∧ d' = ⟨.collected l.blk, #[]⟩
  | _ => False
theorem DfR.mono {ρ ρ' : Ren} (h : ρ.le ρ') {d d' : Deferred} (r : DfR ρ d d') : DfR ρ' d d' := by
  unfold DfR at *
  split
  · obtain ⟨c, a, h1, h2, h3⟩ := r; exact ⟨c, a, h1.mono h, h2.mono h, h3⟩
  · obtain ⟨l, h1, h2⟩ := r; exact ⟨l, h _ _ h1, h2⟩
  · rename_i h1 h2; revert r; split <;> simp_all

def RSim (P : Program) (w0 : Base) (ρ : Ren) (w : World) (s : Sem Next) : ARes → Prop
  | .vals l => ∃ r ∈ l, ∃ v' w' ρ', s.run P w = .ok (.value v') w' ∧ ρ.le ρ' ∧ HR P w0 ρ' r.2 w' ∧ VR ρ' r.1 v'
  | .skip H' => ∃ w' ρ', s.run P w = .ok .skip w' ∧ ρ.le ρ' ∧ HR P w0 ρ' H' w'
  | .enter f args H' => ∃ args' w' ρ', s.run P w = .ok (.enter f ⟨args'⟩) w' ∧ ρ.le ρ' ∧ HR P w0 ρ' H' w' ∧ VRL ρ' args args'
  | .round l args H' => ∃ lo args' r r', s.run P w = .ok (.round lo.blk r'.fn ((r'.params.zip ⟨args'⟩).foldl (fun tmps (t, a) => tmps.setIfInBounds t a) r'.tmps) r'.assign r'.body) w ∧
      HR P w0 ρ H' w ∧ VRL ρ args args' ∧ ρ l = some lo ∧ H'.get l = some (.obj (.loop r)) ∧ w.heap[lo.blk]? = some (.loop r') ∧ LR ρ r r' ∧ lo.base = 0
  | .pan v H' => ∃ v', s.run P w = .halt (.panic v') w ∧ HR P w0 ρ H' w ∧ VR ρ v v'
  | .dfr d H' => ∃ d', s.run P w = .ok (.defer d') w ∧ HR P w0 ρ H' w ∧ DfR ρ d d'
  | .stuck => True

def ofV (H : AH) : Option Value → ARes
  | some v => .vals [(v, H)]
  | none => .stuck
def ofOV : OV → ARes
  | some r => .vals [r]
  | none => .stuck
def ofU : Option AH → ARes
  | some H => .skip H
  | none => .stuck
def ofE (H : AH) : Option (Except Value Value) → ARes
  | some (.ok v) => .vals [(v, H)]
  | some (.error v) => .pan v H
  | none => .stuck
theorem ofV_sim (h : HR P w0 ρ H w) {s : Sem Value} {r : Option Value} (hs : ∀ v, r = some v → ∃ v', s.run P w = .ok v' w ∧ VR ρ v v') : RSim P w0 ρ w (do pure (.value (← s))) (ofV H r) := by
  cases r with
  | none => trivial
  | some v =>
    obtain ⟨v', h1, h2⟩ := hs v rfl
    exact ⟨(v, H), List.mem_singleton.2 rfl, v', w, ρ, by simp only [Sem.run_bind, h1, Result.andThen_ok, Sem.run_pure], Ren.le_refl ρ, h, h2⟩
theorem ofOV_sim {s : Sem Value} {r : OV} (hs : ∀ v, r = some v → SV P w0 ρ s w v) : RSim P w0 ρ w (do pure (.value (← s))) (ofOV r) := by
  cases r with
  | none => trivial
  | some v =>
    obtain ⟨v', w', ρ', h1, h2⟩ := hs v rfl
    exact ⟨v, List.mem_singleton.2 rfl, v', w', ρ', by simp only [Sem.run_bind, h1, Result.andThen_ok, Sem.run_pure], h2⟩
theorem ofU_sim {s : Sem Unit} {r : Option AH} (hs : ∀ v, r = some v → ∃ w', s.run P w = .ok () w' ∧ HR P w0 ρ v w') : RSim P w0 ρ w (do s; pure .skip) (ofU r) := by
  cases r with
  | none => trivial
  | some v =>
    obtain ⟨w', h1, h2⟩ := hs v rfl
    exact ⟨w', ρ, by simp only [Sem.run_bind, h1, Result.andThen_ok, Sem.run_pure], Ren.le_refl ρ, h2⟩
theorem ofE_sim (h : HR P w0 ρ H w) {s : Sem Value} {r : Option (Except Value Value)} (hs : ∀ v, r = some v → ESim P ρ s w v) : RSim P w0 ρ w (do pure (.value (← s))) (ofE H r) := by
  cases r with
  | none => trivial
  | some e =>
    cases e with
    | ok v =>
      obtain ⟨v', h1, h2⟩ := hs _ rfl
      exact ⟨(v, H), List.mem_singleton.2 rfl, v', w, ρ, by simp only [Sem.run_bind, h1, Result.andThen_ok, Sem.run_pure], Ren.le_refl ρ, h, h2⟩
    | error v =>
      obtain ⟨v', h1, h2⟩ := hs _ rfl
      exact ⟨v', by simp only [Sem.run_bind, h1, Result.andThen_halt], h, h2⟩

/-! calls -/
noncomputable def aEnter (P : Program) (f : FuncId) (args : List Value) (H : AH) : ARes :=
  match P.funcs[f]? with
  | some fn => match fn.body with
    | some _ => if fn.name == "runtime.NumGoroutine" then .stuck else .enter f args H
    | none => ofOV (aExt H fn args)
  | none => .stuck
theorem aEnter_sim (h : HR P w0 ρ H w) {f : FuncId} {args args' : List Value} (ha : VRL ρ args args') : RSim P w0 ρ w (callFunc f ⟨args'⟩) (aEnter P f args H) := by
  unfold aEnter
  split
  · rename_i fn hf
    split
    · rename_i c hc
      split
      · trivial
      · rename_i hn
        refine ⟨args', w, ρ, ?_, Ren.le_refl ρ, h, ha⟩
        simp only [callFunc, Sem.run_bind, run_program, Result.andThen_ok, hf, hc, hn, Option.isNone_some, Bool.false_eq_true, if_false, Sem.run_pure]
    · rename_i hc
      cases hr : aExt H fn args with
      | none => trivial
      | some r =>
        obtain ⟨e, h1, v', w', ρ', h2, h3⟩ := ext_sim h hf hc ha hr
        exact ⟨r, List.mem_singleton.2 rfl, v', w', ρ', by rw [h1, h2]; rfl, h3⟩
  · trivial

def notPtrT : TypeDesc → Bool
  | .pointer _ => false
  | _ => true
noncomputable def aMethod (P : Program) (t : TypeId) (v : Value) (name : String) (H : AH) : Option (FuncId × Value) :=
  match P.info? t with
  | some d => match d.methods.find? (·.name == name) with
    | some m => match m.path.toList, m.func with
      | [], some (f, true) => match P.underlying t with
        | some (.pointer _) => some (f, v)
        | _ => none
      | [], some (f, false) => match P.underlying t with
        | some (.pointer e) => match v with
          | .pointer (some _) => (aLoad P H e v).map fun r => (f, r)
          | _ => none
        | some _ => some (f, v)
        | none => none
      | [s], some (f, true) => if s.deref then (match P.underlying s.struct, v with
        | some (.struct fields), .pointer (some a) => match fields[s.index]? with
          | some fd => match P.info? fd.type, P.underlying fd.type with
            | some i, some u => if i.size ≠ 0 ∧ notPtrT u = true then some (f, .pointer (some ⟨a.block, a.off + fd.offset, none⟩)) else none
            | _, _ => none
          | none => none
        | _, _ => none) else none
      | _, _ => none
    | none => none
  | none => none
theorem aMethod_sim (h : HR P w0 ρ H w) {t : TypeId} {v v' : Value} {name : String} {f : FuncId} {r : Value} (hv : VR ρ v v') (hr : aMethod P t v name H = some (f, r)) (fuel : Nat) :
    ∃ r', (Go.method (fuel + 1) t v' name).run P w = .ok (f, r') w ∧ VR ρ r r' := by
  unfold aMethod at hr
  split at hr <;> try cases hr
  rename_i d hd
  split at hr <;> try cases hr
  rename_i m hm
  have hm' : Array.find? (fun x => x.name == name) d.methods = some m := hm
  split at hr <;> try cases hr
  · rename_i g hp hf
    split at hr <;> cases hr
    rename_i e hu
    refine ⟨v', ?_, hv⟩
    simp only [Go.method, Sem.run_bind, run_typeInfo hd, Result.andThen_ok, hm', hp, Go.follow, Sem.run_pure, hf, Go.receiverAt, run_underlying hu, Go.Place.get]
  · rename_i g hp hf
    split at hr <;> try cases hr
    · rename_i e hu
      split at hr <;> try cases hr
      rename_i a
      rw [Option.map_eq_some_iff] at hr
      obtain ⟨x, hx, he⟩ := hr
      cases he
      obtain ⟨x', s1, s2⟩ := aLoad_sim h hv hx
      obtain ⟨l, hl, _, rfl⟩ := hv.ptr_some
      refine ⟨x', ?_, s2⟩
      simp only [Instr.loadAt, Instr.sureAddr, Sem.run_bind, Sem.run_pure, Result.andThen_ok] at s1
      have hpe : m.path.isEmpty = true := by
        have : m.path = #[] := Array.toList_inj.1 (by simpa using hp)
        rw [this]; rfl
      have hwn : ∀ (nm : String), (Builtin.ssaWrapNilChk_ #[t] t #[.pointer (some ⟨l.blk, l.base + a.off, none⟩), strVal "", strVal nm]).run P w = .ok (.pointer (some ⟨l.blk, l.base + a.off, none⟩)) w := fun _ => rfl
      simp only [Go.method, Sem.run_bind, run_typeInfo hd, Result.andThen_ok, hm', hp, Go.follow, Sem.run_pure, hf, Go.receiverAt, run_underlying hu, Go.Place.get, hpe, if_true, hwn, asAddr, s1]
    · rename_i u hnp hu
      refine ⟨v', ?_, hv⟩
      have : m.path.toList = [] := hp
      simp only [Go.method, Sem.run_bind, run_typeInfo hd, Result.andThen_ok, hm', hp, Go.follow, Sem.run_pure, hf, Go.receiverAt, run_underlying hu, Go.Place.get]
  · rename_i s g hp hf
    split at hr <;> try cases hr
    rename_i hdr
    split at hr <;> try cases hr
    rename_i fields a hu
    split at hr <;> try cases hr
    rename_i fd hfd
    split at hr <;> try cases hr
    rename_i i u hi hfu
    split at hr <;> cases hr
    rename_i hc
    obtain ⟨l, hl, _, rfl⟩ := hv.ptr_some
    refine ⟨_, ?_, VR.mk_addr hl⟩
    simp only [Go.method, Sem.run_bind, run_typeInfo hd, Result.andThen_ok, hm', hp, Go.follow, run_underlying hu, hfd, hdr, if_true, Go.Place.get, Sem.run_pure, asAddr, fieldPlace, run_sizeOf hi, hc.1, if_false, addr_add, hf, Go.receiverAt, run_underlying hfu, Nat.add_assoc]
    have := hc.2
    cases u <;> simp_all [notPtrT]
end Go.Mt
/- The dispatch of the operations. -/
namespace Go.Mt
variable {P : Program} {w0 : Base} {w w' : World} {ρ : Ren} {H : AH}

def aCapB (P : Program) (t : TypeId) (x : Value) : Option Value :=
  match P.underlying t, x with
  | some (.slice _), .slice none _ _ => some (.int .i64 0)
  | some (.slice _), .slice (some _) _ (k + 1) => some (.int .i64 k)
  | _, _ => none
theorem aCapB_sim {t type : TypeId} {x x' v : Value} (hx : VR ρ x x') (hr : aCapB P t x = some v) (w : World) : ∃ v', (Builtin.cap_ #[t] type #[x']).run P w = .ok v' w ∧ VR ρ v v' := by
  unfold aCapB at hr
  split at hr <;> cases hr
  all_goals rename_i hu
  · obtain ⟨_, rfl⟩ := hx.slice_none_inv
    refine ⟨_, ?_, by simp only [VR]; rfl⟩
    simp only [Builtin.cap_, List.getElem?_toArray, List.getElem?_cons_zero, Sem.run_bind, run_underlying hu, Result.andThen_ok]; rfl
  · obtain ⟨b, c, ⟨l, _, _, _, _, _, h6⟩, rfl⟩ := hx.slice_inv
    obtain ⟨e, _⟩ := h6 (by omega)
    obtain rfl : c = _ := (Nat.succ.inj e).symm
    refine ⟨_, ?_, by simp only [VR]; rfl⟩
    simp only [Builtin.cap_, List.getElem?_toArray, List.getElem?_cons_zero, Sem.run_bind, run_underlying hu, Result.andThen_ok]; rfl
noncomputable def aBuiltin (P : Program) (H : AH) (b : Builtin) (ats : List TypeId) (type : TypeId) (args : List Value) : ARes :=
  match b, ats, args with
  | .append, [s, x], [a, c] => if (P.underlying x).isSome then (if isIntT P x then ofOV (aAppendZ P H s x a c) else ofOV (aAppend P H s x a c)) else .stuck
  | .copy, [d, _], [a, c] => ofOV (aCopy P H d a c)
  | .len, [t], [x] => ofV H (aLenB P H t x)
  | .cap, [t], [x] => ofV H (aCapB P t x)
  | .clear, [t], [x] => ofOV (aClear P H t x)
  | .delete, [t, _], [m, k] => ofOV (aDelete P H t m k)
  | .max, ats, args => if closedL args then ofE H (pureC P (Builtin.max_ ⟨ats⟩ type ⟨args⟩)) else .stuck
  | .min, ats, args => if closedL args then ofE H (pureC P (Builtin.min_ ⟨ats⟩ type ⟨args⟩)) else .stuck
  | .panic, _, [.iface t v] => .pan (.iface t v) H
  | _, _, _ => .stuck
theorem VRL.two {a b : Value} {ys : List Value} (h : VRL ρ [a, b] ys) : ∃ a' b', ys = [a', b'] ∧ VR ρ a a' ∧ VR ρ b b' := by
  simp only [VRL] at h; obtain ⟨a', t, h1, ⟨b', u, h2, rfl, rfl⟩, rfl⟩ := h; exact ⟨a', b', rfl, h1, h2⟩
theorem VRL.one {a : Value} {ys : List Value} (h : VRL ρ [a] ys) : ∃ a', ys = [a'] ∧ VR ρ a a' := by
  simp only [VRL] at h; obtain ⟨a', t, h1, rfl, rfl⟩ := h; exact ⟨a', rfl, h1⟩
theorem aBuiltin_sim (h : HR P w0 ρ H w) {b : Builtin} {ats : List TypeId} {type : TypeId} {consts : Array Bool} {args args' : List Value} (ha : VRL ρ args args') :
    RSim P w0 ρ w (builtin b ⟨ats⟩ type consts ⟨args'⟩) (aBuiltin P H b ats type args) := by
  unfold aBuiltin
  split
  · split
    · rename_i hu
      obtain ⟨a', b', rfl, h1, h2⟩ := ha.two
      split
      · exact ofOV_sim fun v hv => aAppendZ_sim h h1 h2 hv
      · exact ofOV_sim fun v hv => aAppend_sim h h1 h2 hu hv
    · trivial
  · obtain ⟨a', b', rfl, h1, h2⟩ := ha.two
    exact ofOV_sim fun v hv => aCopy_sim h h1 h2 hv
  · obtain ⟨a', rfl, h1⟩ := ha.one
    exact ofV_sim h fun v hv => aLenB_sim h h1 hv
  · obtain ⟨a', rfl, h1⟩ := ha.one
    exact ofV_sim h fun v hv => aCapB_sim h1 hv w
  · obtain ⟨a', rfl, h1⟩ := ha.one
    exact ofOV_sim fun v hv => aClear_sim h h1 hv
  · obtain ⟨a', b', rfl, h1, h2⟩ := ha.two
    exact ofOV_sim fun v hv => aDelete_sim h h1 h2 hv
  · split
    · rename_i hc
      cases VRL.eq_of_closed hc ha
      exact ofE_sim h fun v hv => pureC_sim hv ρ w
    · trivial
  · split
    · rename_i hc
      cases VRL.eq_of_closed hc ha
      exact ofE_sim h fun v hv => pureC_sim hv ρ w
    · trivial
  · obtain ⟨a', rfl, h1⟩ := ha.one
    obtain ⟨v', h2, rfl⟩ := h1.iface_inv
    exact ⟨.iface _ v', rfl, h, h1⟩
  · trivial

noncomputable def aCall (P : Program) (ea : Operand → Value) (c : Call) (type : TypeId) (H : AH) : ARes :=
  let args := c.args.toList.map ea
  match c.callee with
  | .builtin b => aBuiltin P H b c.argTypes.toList type args
  | .invoke recv name => match ea recv with
    | .iface t v => match aMethod P t v name H with
      | some (f, r) => aEnter P f (r :: args) H
      | none => .stuck
    | _ => .stuck
  | .value f => match ea f with
    | .func (.func g) first captured => aEnter P g (first.toList ++ args ++ captured.toList) H
    | .func (.yield l) ⟨[]⟩ ⟨[]⟩ => match H.get l with
      | some (.obj (.loop r)) => if args.length = r.params.size then .round l args H else .stuck
      | _ => .stuck
    | _ => .stuck
theorem map_rel {ea ec : Operand → Value} : ∀ {xs : List Operand}, (∀ x ∈ xs, VR ρ (ea x) (ec x)) → VRL ρ (xs.map ea) (xs.map ec)
  | [], _ => by simp [VRL]
  | x :: xs, h => by simp only [List.map_cons]; exact VRL.cons (h x (by simp)) (map_rel fun y hy => h y (by simp [hy]))
theorem aCall_sim (h : HR P w0 ρ H w) {ea ec : Operand → Value} {c : Call} {type : TypeId} (hx : ∀ x ∈ c.operands, VR ρ (ea x) (ec x)) :
    RSim P w0 ρ w (do let d ← resolve ec c type; invoke d.target d.args) (aCall P ea c type H) := by
  obtain ⟨callee, ⟨args⟩, ⟨ats⟩⟩ := c
  have hargs : VRL ρ (args.map ea) (args.map ec) := map_rel fun x hx' => hx x (by simp [Call.operands, hx'])
  have hmap : (⟨args⟩ : Array Operand).map ec = ⟨args.map ec⟩ := by simp
  unfold aCall
  dsimp only
  cases callee with
  | builtin b =>
    have := aBuiltin_sim (P := P) h (b := b) (ats := ats) (type := type) (consts := (⟨args⟩ : Array Operand).map fun | .const _ => true | _ => false) hargs
    simp only [resolve, hmap]
    exact this
  | invoke recv name =>
    dsimp only
    have hrecv := hx recv (by simp [Call.operands])
    split <;> try trivial
    rename_i t v he
    rw [he] at hrecv
    obtain ⟨v', hv, hve⟩ := hrecv.iface_inv
    split <;> try trivial
    rename_i f r hm
    obtain ⟨r', s1, s2⟩ := aMethod_sim (P := P) h hv hm (P.types.size + Made.depth - 1)
    have hfuel : P.types.size + Made.depth - 1 + 1 = P.types.size + Made.depth := by
      have : 0 < Made.depth := by decide
      omega
    rw [hfuel] at s1
    have hent := aEnter_sim (P := P) h (f := f) (args := r :: args.map ea) (args' := r' :: args.map ec) (VRL.cons s2 hargs)
    have hrun : (do let d ← resolve ec ⟨.invoke recv name, ⟨args⟩, ⟨ats⟩⟩ type; invoke d.target d.args : Sem Next).run P w = (callFunc f ⟨r' :: args.map ec⟩).run P w := by
      simp only [resolve, hmap, Sem.run_bind, Sem.run_pure, Result.andThen_ok, invoke]
      rw [show (#[ec recv] ++ (⟨args.map ec⟩ : Array Value)) = ⟨ec recv :: args.map ec⟩ by simp]
      simp only [List.getElem?_toArray, List.getElem?_cons_zero, hve, callMethod, Sem.run_bind, run_program, Result.andThen_ok, s1]
      congr 2
      apply Array.toList_inj.1
      simp
      exact List.take_of_length_le (by simp)
    revert hent
    generalize aEnter P f (r :: args.map ea) H = q
    intro hent
    cases q <;> simp only [RSim, hrun] at hent ⊢ <;> exact hent
  | value f =>
    dsimp only
    have hf := hx f (by simp [Call.operands])
    split <;> try trivial
    · rename_i g first captured he
      rw [he] at hf
      obtain ⟨first⟩ := first
      obtain ⟨captured⟩ := captured
      simp only [VR] at hf
      obtain ⟨g', x', z', hg, hx', hz', hfe⟩ := hf
      have hg' : g' = .func g := by cases g' <;> simp [FnR] at hg; rw [hg]
      subst hg'
      have hent := aEnter_sim (P := P) h (f := g) (args := first ++ args.map ea ++ captured) (args' := x' ++ args.map ec ++ z') ((hx'.append hargs).append hz')
      have hrun : (do let d ← resolve ec ⟨.value f, ⟨args⟩, ⟨ats⟩⟩ type; invoke d.target d.args : Sem Next).run P w = (callFunc g ⟨x' ++ args.map ec ++ z'⟩).run P w := by
        simp only [resolve, hmap, hfe, Deferred.ofValue, Sem.run_bind, Sem.run_pure, Result.andThen_ok, invoke]
        congr 2
        apply Array.toList_inj.1
        simp
      revert hent
      generalize aEnter P g (first ++ args.map ea ++ captured) H = q
      intro hent
      cases q <;> simp only [RSim, hrun] at hent ⊢ <;> exact hent
    · rename_i l he
      rw [he] at hf
      simp only [VR, VRL] at hf
      obtain ⟨g', x', z', hg, rfl, rfl, hfe⟩ := hf
      split <;> try trivial
      rename_i r hgl
      split <;> try trivial
      rename_i hn
      cases g' <;> simp only [FnR] at hg <;> try (exact hg.elim)
      rename_i l'
      obtain ⟨lo, hlo, hb, rfl⟩ := hg
      obtain ⟨o', h1, ⟨r', h2, rfl⟩, _⟩ := h.obj hlo hgl
      refine ⟨lo, args.map ec, r, r', ?_, h, hargs, hlo, hgl, h1, h2, hb⟩
      simp only [resolve, hmap, hfe, Deferred.ofValue, Sem.run_bind, Sem.run_pure, Result.andThen_ok, invoke]
      rw [show ((⟨[]⟩ : Array Value) ++ (⟨args.map ec⟩ : Array Value)) = ⟨args.map ec⟩ by simp]
      exact run_yield h1 (by rw [← h2.params]; simp at hn ⊢; exact hn)

def nilPanic (P : Program) : Option Value :=
  match pureRun P (runtimePanic .nilDeref : Sem Value) with
  | some (.error v) => if closed v then some v else none
  | _ => none
def aNilCheck (P : Program) (H : AH) (x : Value) : ARes :=
  match x with
  | .pointer none | .nilIface | .nilFunc => match nilPanic P with
    | some v => .pan v H
    | none => .stuck
  | .func (.method _) _ _ => .stuck
  | x => .vals [(x, H)]
def aDefer (P : Program) (ea : Operand → Value) (c : Call) (H : AH) : ARes :=
  match c.callee with
  | .value f => match ea f with
    | .func (.func g) first captured => match P.funcs[g]? with
      | some fn => if fn.name == "runtime.NumGoroutine" || fn.body.isNone then .stuck else .dfr ⟨.fn (.func g) captured, ⟨first.toList ++ c.args.toList.map ea⟩⟩ H
      | none => .stuck
    | _ => .stuck
  | _ => .stuck

noncomputable def aOp (P : Program) (ea : Operand → Value) (o : Oper) (H : AH) : ARes :=
  match o.op with
  | .move x | .assign x => .vals [(ea x, H)]
  | .pick c a b => match ea c with
    | .bool t => .vals [(if t then ea a else ea b, H)]
    | _ => .stuck
  | .alloc e => ofOV (aAlloc P H e)
  | .box e x => ofOV (aBox P H e (ea x))
  | .build t parts => ofV H (aBuild P t (parts.toList.map fun p => (p.1, ea p.2)))
  | .buildSlice t len parts => ofOV (aBuildSlice P H t len (parts.toList.map fun p => (p.1, ea p.2)))
  | .load t a => ofV H (aLoad P H t (ea a))
  | .store t a x => ofU (aStore P H t (ea a) (ea x))
  | .nilCheck x => aNilCheck P H (ea x)
  | .binOp op t x y _ => ofE H (aBin P op t x y (ea x) (ea y))
  | .unOp op _ x => ofE H (aUn P op (ea x))
  | .convert s d x => match aConvert P H s d (ea x) with
    | some (.val v H') => .vals [(v, H')]
    | _ => .stuck
  | .makeInterface t x => ofV H (aMakeInterface P t (ea x))
  | .makeFunc (.func f) first captured => .vals [(.func (.func f) ⟨first.toList.map ea⟩ ⟨captured.toList.map ea⟩, H)]
  | .makeMap t r => ofOV (aMakeMap P H t (r.map ea))
  | .makeSlice t l c => ofOV (aMakeSlice P H t (ea l) (ea c))
  | .slice t x lo hi mx => ofV H (aSlice P H t (ea x) (lo.map ea) (hi.map ea) (mx.map ea))
  | .fieldAddr s x f => ofV H (aFieldAddr P s (ea x) f)
  | .field t x f => ofV H (aField P t (ea x) f)
  | .indexAddr t x i => ofV H (aIndexAddr P t (ea x) (ea i))
  | .index t x i => ofV H (aIndex P t (ea x) (ea i))
  | .lookup t x i ok => ofV H (aLookup P H t (ea x) (ea i) ok)
  | .mapUpdate t m k x | .insert t m k x => ofU (aMapUpdate P H t (ea m) (ea k) (ea x))
  | .mapEntry t m k => ofOV (aMapEntry P H t (ea m) (ea k))
  | .entryStore _ m s x => ofU (aEntryStore H (ea m) (ea s) (ea x))
  | .range t x => ofOV (aRange P H t (ea x))
  | .next it b => match aNext H (ea it) b with
    | some l => .vals l
    | none => .stuck
  | .entry it => ofV H (aEntry H (ea it))
  | .typeAssert x _ t ok => ofV H (aTypeAssert P (ea x) t ok)
  | .extract t i => ofV H (aExtract (ea t) i)
  | .call c => aCall P ea c o.type H
  | .defer c => aDefer P ea c H
  | .panic x => match ea x with
    | .iface t v => .pan (.iface t v) H
    | _ => .stuck
  | _ => .stuck

theorem optInt_closed {ea ec : Operand → Value} {x : Option Operand} {n : Option Int} (h : ∀ y, x = some y → VR ρ (ea y) (ec y)) (hn : optInt (x.map ea) = some n) : x.map ec = x.map ea := by
  cases x with
  | none => rfl
  | some y =>
    simp only [Option.map_some] at hn ⊢
    have := h y rfl
    revert hn this
    generalize ea y = v
    intro hn this
    cases v <;> simp [optInt] at hn
    rw [this.int_inv]
theorem parts_rel {ea ec : Operand → Value} : ∀ {ps : List (Nat × Operand)}, (∀ p ∈ ps, VR ρ (ea p.2) (ec p.2)) →
    (ps.map fun p => (p.1, ea p.2)).map (·.1) = (ps.map fun p => (p.1, ec p.2)).map (·.1) ∧ VRL ρ ((ps.map fun p => (p.1, ea p.2)).map (·.2)) ((ps.map fun p => (p.1, ec p.2)).map (·.2))
  | [], _ => by simp [VRL]
  | p :: ps, h => by
    obtain ⟨h1, h2⟩ := parts_rel (ps := ps) fun q hq => h q (by simp [hq])
    simp only [List.map_cons, List.cons.injEq, true_and]
    exact ⟨h1, VRL.cons (h p (by simp)) h2⟩
theorem mem_operands (o : Op) (x : Operand) (h : x ∈ o.operands.toList) : x ∈ o.operands := by simpa using h

theorem aOp_sim (h : HR P w0 ρ H w) {ea ec : Operand → Value} {o : Oper} (hx : ∀ x ∈ o.op.operands, VR ρ (ea x) (ec x)) : RSim P w0 ρ w (execOp ec o) (aOp P ea o H) := by
  obtain ⟨dst, op, type, pos, after, guard⟩ := o
  unfold aOp execOp
  dsimp only at hx ⊢
  cases op <;> simp only [Op.operands] at hx <;> try trivial
  case move x => exact ⟨_, List.mem_singleton.2 rfl, _, w, ρ, rfl, Ren.le_refl ρ, h, hx x (by simp)⟩
  case assign x => exact ⟨_, List.mem_singleton.2 rfl, _, w, ρ, rfl, Ren.le_refl ρ, h, hx x (by simp)⟩
  case pick c a b =>
    have hc := hx c (by simp)
    dsimp only
    split
    · rename_i t he
      rw [he] at hc
      refine ⟨_, List.mem_singleton.2 rfl, if t then ec a else ec b, w, ρ, ?_, Ren.le_refl ρ, h, ?_⟩
      · simp only [hc.bool_inv, asBool, Sem.run_bind, Sem.run_pure, Result.andThen_ok]
      · cases t
        · exact hx b (by simp)
        · exact hx a (by simp)
    · trivial
  case alloc e => exact ofOV_sim fun v hv => aAlloc_sim h hv
  case box e x => exact ofOV_sim fun v hv => aBox_sim h (hx x (by simp)) hv
  case build t parts =>
    obtain ⟨ps⟩ := parts
    obtain ⟨h1, h2⟩ := parts_rel (ρ := ρ) (ea := ea) (ec := ec) (ps := ps) fun p hp => hx p.2 (by simp only [List.mem_toArray, List.mem_map]; exact ⟨p, hp, rfl⟩)
    have hm : Array.map (fun x : Nat × Operand => (x.1, ec x.2)) ⟨ps⟩ = ⟨ps.map fun p => (p.1, ec p.2)⟩ := by simp
    dsimp only
    rw [hm]
    exact ofV_sim h fun v hv => aBuild_sim h1 h2 hv w
  case buildSlice t len parts =>
    obtain ⟨ps⟩ := parts
    obtain ⟨h1, h2⟩ := parts_rel (ρ := ρ) (ea := ea) (ec := ec) (ps := ps) fun p hp => hx p.2 (by simp only [List.mem_toArray, List.mem_map]; exact ⟨p, hp, rfl⟩)
    have hm : Array.map (fun x : Nat × Operand => (x.1, ec x.2)) ⟨ps⟩ = ⟨ps.map fun p => (p.1, ec p.2)⟩ := by simp
    dsimp only
    rw [hm]
    exact ofOV_sim fun v hv => aBuildSlice_sim h h1 h2 hv
  case load t a => exact ofV_sim h fun v hv => aLoad_sim h (hx a (by simp)) hv
  case store t a x => exact ofU_sim fun v hv => aStore_sim h (hx a (by simp)) (hx x (by simp)) hv
  case nilCheck x =>
    have hc := hx x (by simp)
    dsimp only
    unfold aNilCheck
    have hpan : ∀ {s : Sem Next}, s = runtimePanic .nilDeref → RSim P w0 ρ w s (match nilPanic P with | some v => .pan v H | none => .stuck) := by
      rintro s rfl
      split
      · rename_i v hv
        unfold nilPanic at hv
        split at hv <;> try cases hv
        rename_i v hv'
        split at hv <;> cases hv
        rename_i hcl
        refine ⟨v, ?_, h, VR.of_closed ρ hcl⟩
        have := pureRun_panic hv' w
        simp only [runtimePanic, Sem.run_bind, run_program, Result.andThen_ok, run_goPanic] at this ⊢
        injection this with e1 e2
        rw [e1]
      · trivial
    have hval : ∀ {a c : Value}, VR ρ a c → RSim P w0 ρ w (pure (.value c)) (.vals [(a, H)]) := fun {a c} hv => ⟨_, List.mem_singleton.2 rfl, c, w, ρ, rfl, Ren.le_refl ρ, h, hv⟩
    revert hc
    generalize ea x = a
    generalize ec x = c
    intro hc
    cases a with
    | bool b => cases hc.bool_inv; exact hval hc
    | int k n => cases hc.int_inv; exact hval hc
    | float k n => cases (show c = .float k n by simpa only [VR] using hc); exact hval hc
    | complex k n m => cases (show c = .complex k n m by simpa only [VR] using hc); exact hval hc
    | string b => cases hc.string_inv; exact hval hc
    | pointer p => cases p with
      | none => cases (show c = .pointer none by simpa only [VR] using hc); exact hpan rfl
      | some p => obtain ⟨l, _, _, rfl⟩ := hc.ptr_some; exact hval hc
    | slice b n k => obtain ⟨b', c', rfl, _⟩ := hc.slice_shape; exact hval hc
    | map m => obtain ⟨m', rfl, _⟩ := hc.map_shape; exact hval hc
    | chan r => simp only [VR] at hc; obtain ⟨rfl, rfl⟩ := hc; exact hval (by simp [VR])
    | func f x1 x2 =>
      obtain ⟨x1⟩ := x1
      obtain ⟨x2⟩ := x2
      have hc' := hc
      simp only [VR] at hc'
      obtain ⟨g, x', z', hg, _, _, rfl⟩ := hc'
      cases f <;> cases g <;> simp [FnR] at hg <;> first | exact hval hc | trivial
    | nilFunc => cases hc.nilFunc_inv; exact hpan rfl
    | iface t v => obtain ⟨v', _, rfl⟩ := hc.iface_inv; exact hval hc
    | nilIface => cases hc.nilIface_inv; exact hpan rfl
    | agg xs => obtain ⟨ys, rfl, _⟩ := hc.agg_inv; exact hval hc
    | tuple xs => obtain ⟨ys, rfl, _⟩ := hc.tuple_inv; exact hval hc
  case binOp op t x y yt => exact ofE_sim h fun v hv => aBin_sim (hx x (by simp)) (hx y (by simp)) hv w
  case unOp op t x => exact ofE_sim h fun v hv => aUn_sim (hx x (by simp)) hv w
  case convert s d x =>
    dsimp only
    split
    · rename_i v H' he
      obtain ⟨v2, H2, e, q⟩ := aConvert_sim h (hx x (by simp)) he
      cases e
      obtain ⟨v', w', ρ', s1, s2⟩ := q
      exact ⟨_, List.mem_singleton.2 rfl, v', w', ρ', by simp only [Sem.run_bind, s1, Result.andThen_ok, Sem.run_pure], s2⟩
    · trivial
  case makeInterface t x => exact ofV_sim h fun v hv => aMakeInterface_sim (hx x (by simp)) hv w
  case makeFunc fn first captured =>
    cases fn <;> try trivial
    rename_i f
    obtain ⟨fs⟩ := first
    obtain ⟨cs⟩ := captured
    have h1 : VRL ρ (fs.map ea) (fs.map ec) := map_rel fun x hx' => hx x (by simp [hx'])
    have h2 : VRL ρ (cs.map ea) (cs.map ec) := map_rel fun x hx' => hx x (by simp [hx'])
    refine ⟨_, List.mem_singleton.2 rfl, .func (.func f) ⟨fs.map ec⟩ ⟨cs.map ec⟩, w, ρ, ?_, Ren.le_refl ρ, h, ?_⟩
    · simp only [Instr.makeFunc, Sem.run_bind, Sem.run_pure, Result.andThen_ok, List.map_toArray]
    · simp only [VR]; exact ⟨_, _, _, rfl, h1, h2, rfl⟩
  case makeMap t r =>
    refine ofOV_sim fun v hv => aMakeMap_sim h ?_ ?_ hv
    · intro v hv
      cases r with
      | none => cases hv
      | some x => cases hv; exact ⟨_, rfl, hx x (by simp)⟩
    · intro hn; cases r <;> simp_all
  case makeSlice t l c => exact ofOV_sim fun v hv => aMakeSlice_sim h (hx l (by simp)) (hx c (by simp)) hv
  case slice t x lo hi mx =>
    refine ofV_sim h fun v hv => ?_
    have hv' := hv
    unfold aSlice at hv'
    split at hv' <;> try cases hv'
    rename_i a b c e1 e2 e3
    exact aSlice_sim h (hx x (by simp)) (optInt_closed (fun y hy => hx y (by subst hy; simp)) e1) (optInt_closed (fun y hy => hx y (by subst hy; simp)) e2) (optInt_closed (fun y hy => hx y (by subst hy; simp)) e3) hv
  case fieldAddr s x f => exact ofV_sim h fun v hv => aFieldAddr_sim (hx x (by simp)) hv w
  case field t x f => exact ofV_sim h fun v hv => aField_sim (hx x (by simp)) hv w
  case indexAddr t x i => exact ofV_sim h fun v hv => aIndexAddr_sim (hx x (by simp)) (hx i (by simp)) hv w
  case index t x i => exact ofV_sim h fun v hv => aIndex_sim (hx x (by simp)) (hx i (by simp)) hv w
  case lookup t x i ok => exact ofV_sim h fun v hv => aLookup_sim h (hx x (by simp)) (hx i (by simp)) hv
  case mapUpdate t m k x => exact ofU_sim fun v hv => aMapUpdate_sim h (hx m (by simp)) (hx k (by simp)) (hx x (by simp)) hv
  case insert t m k x => exact ofU_sim fun v hv => aMapUpdate_sim h (hx m (by simp)) (hx k (by simp)) (hx x (by simp)) hv
  case mapEntry t m k => exact ofOV_sim fun v hv => aMapEntry_sim h (hx m (by simp)) (hx k (by simp)) hv
  case entryStore t m s x => exact ofU_sim fun v hv => aEntryStore_sim h (hx m (by simp)) (hx s (by simp)) (hx x (by simp)) hv
  case range t x => exact ofOV_sim fun v hv => aRange_sim h (hx x (by simp)) hv
  case next it b =>
    dsimp only
    split
    · rename_i l he
      obtain ⟨r, hr, v', w', ρ', s1, s2⟩ := aNext_sim (P := P) (type := type) h (hx it (by simp)) he
      exact ⟨r, hr, v', w', ρ', by simp only [Sem.run_bind, s1, Result.andThen_ok, Sem.run_pure], s2⟩
    · trivial
  case entry it => exact ofV_sim h fun v hv => aEntry_sim h (hx it (by simp)) hv
  case typeAssert x xt t ok => exact ofV_sim h fun v hv => aTypeAssert_sim (hx x (by simp)) hv w
  case extract t i => exact ofV_sim h fun v hv => aExtract_sim (hx t (by simp)) hv w
  case call c => exact aCall_sim h hx
  case defer c =>
    obtain ⟨callee, ⟨args⟩, ats⟩ := c
    have hargs : VRL ρ (args.map ea) (args.map ec) := map_rel fun x hx' => hx x (by simp [Call.operands, hx'])
    have hmap : (⟨args⟩ : Array Operand).map ec = ⟨args.map ec⟩ := by simp
    dsimp only
    unfold aDefer
    dsimp only
    cases callee <;> try trivial
    rename_i f
    have hf := hx f (by simp [Call.operands])
    dsimp only
    split <;> try trivial
    rename_i g first captured he
    rw [he] at hf
    obtain ⟨first⟩ := first
    obtain ⟨captured⟩ := captured
    simp only [VR] at hf
    obtain ⟨g', x', z', hg, hx', hz', hfe⟩ := hf
    have hg' : g' = .func g := by cases g' <;> simp [FnR] at hg; rw [hg]
    subst hg'
    split <;> try trivial
    split <;> try trivial
    refine ⟨⟨.fn (.func g) ⟨z'⟩, ⟨x' ++ args.map ec⟩⟩, ?_, h, ?_⟩
    · simp only [resolve, hmap, hfe, Deferred.ofValue, Sem.run_bind, Sem.run_pure, Result.andThen_ok, List.append_toArray]
    · exact ⟨z', x' ++ args.map ec, hz', hx'.append hargs, rfl⟩
  case panic x =>
    have hc := hx x (by simp)
    dsimp only
    split
    · rename_i t v he
      rw [he] at hc
      obtain ⟨v', h1, h2⟩ := hc.iface_inv
      refine ⟨.iface t v', ?_, h, by simp only [VR]; exact ⟨v', h1, rfl⟩⟩
      rw [h2]; rfl
    · trivial
end Go.Mt
/- Blocks may be numbered anew, and forgotten. -/
namespace Go.Mt
variable {P : Program} {w0 : Base} {w : World} {ρ : Ren} {s : Nat → Nat}

def mapA (s : Nat → Nat) (a : Addr) : Addr := ⟨s a.block, a.off, a.spot⟩
def mapF (s : Nat → Nat) : Fn → Fn
  | .yield l => .yield (s l)
  | f => f
mutual
def mapV (s : Nat → Nat) : Value → Value
  | .pointer (some a) => .pointer (some (mapA s a))
  | .slice (some a) n k => .slice (some (mapA s a)) n k
  | .map (some r) => .map (some (s r))
  | .func f ⟨x⟩ ⟨z⟩ => .func (mapF s f) ⟨mapL s x⟩ ⟨mapL s z⟩
  | .iface t v => .iface t (mapV s v)
  | .agg ⟨xs⟩ => .agg ⟨mapL s xs⟩
  | .tuple ⟨xs⟩ => .tuple ⟨mapL s xs⟩
  | v => v
def mapL (s : Nat → Nat) : List Value → List Value
  | [] => []
  | x :: xs => mapV s x :: mapL s xs
end
theorem AR_map {a b : Addr} (h : AR ρ (mapA s a) b) : AR (fun i => ρ (s i)) a b := h
theorem FnR_map {f g : Fn} (h : FnR ρ (mapF s f) g) : FnR (fun i => ρ (s i)) f g := by
  cases f <;> cases g <;> exact h
mutual
theorem VR_map : ∀ {v y : Value}, VR ρ (mapV s v) y → VR (fun i => ρ (s i)) v y
  | .bool a, y, h => h
  | .int k a, y, h => h
  | .float k a, y, h => h
  | .complex k a b, y, h => h
  | .string a, y, h => h
  | .pointer none, y, h => h
  | .pointer (some a), y, h => h
  | .slice none n _, y, h => h
  | .slice (some a) n k, y, h => h
  | .map none, y, h => h
  | .map (some r), y, h => h
  | .chan c, y, h => h
  | .func f ⟨x⟩ ⟨z⟩, y, h => by
    simp only [mapV, VR] at h ⊢
    obtain ⟨g, x', z', h1, h2, h3, rfl⟩ := h
    exact ⟨g, x', z', FnR_map h1, VRL_map h2, VRL_map h3, rfl⟩
  | .nilFunc, y, h => h
  | .iface t v, y, h => by
    simp only [mapV, VR] at h ⊢
    obtain ⟨v', h1, rfl⟩ := h
    exact ⟨v', VR_map h1, rfl⟩
  | .nilIface, y, h => h
  | .agg ⟨xs⟩, y, h => by
    simp only [mapV, VR] at h ⊢
    obtain ⟨ys, h1, rfl⟩ := h
    exact ⟨ys, VRL_map h1, rfl⟩
  | .tuple ⟨xs⟩, y, h => by
    simp only [mapV, VR] at h ⊢
    obtain ⟨ys, h1, rfl⟩ := h
    exact ⟨ys, VRL_map h1, rfl⟩
theorem VRL_map : ∀ {v y : List Value}, VRL ρ (mapL s v) y → VRL (fun i => ρ (s i)) v y
  | [], y, h => h
  | x :: xs, y, h => by
    simp only [mapL, VRL] at h ⊢
    obtain ⟨y, ys, h1, h2, rfl⟩ := h
    exact ⟨y, ys, VR_map h1, VRL_map h2, rfl⟩
end

theorem AR_fix {a b : Addr} (hs : ∀ i, ρ i ≠ none → s i = i) (h : AR ρ a b) : mapA s a = a := by
  obtain ⟨l, h1, h2, h3⟩ := h
  unfold mapA
  rw [hs a.block (by rw [h1]; simp)]
theorem FnR_fix {f g : Fn} (hs : ∀ i, ρ i ≠ none → s i = i) (h : FnR ρ f g) : mapF s f = f := by
  cases f <;> cases g <;> try rfl
  all_goals simp only [FnR] at h
  obtain ⟨x, h1, _⟩ := h
  simp only [mapF]
  rw [hs _ (by rw [h1]; simp)]
mutual
/-- what stands to something under a renaming has none but its blocks. -/
theorem VR_fix (hs : ∀ i, ρ i ≠ none → s i = i) : ∀ {v y : Value}, VR ρ v y → mapV s v = v
  | .bool a, y, h => rfl
  | .int k a, y, h => rfl
  | .float k a, y, h => rfl
  | .complex k a b, y, h => rfl
  | .string a, y, h => rfl
  | .pointer none, y, h => rfl
  | .pointer (some a), y, h => by
    simp only [VR] at h
    obtain ⟨b, h1, _⟩ := h
    simp only [mapV, AR_fix hs h1]
  | .slice none n _, y, h => rfl
  | .slice (some a) n k, y, h => by
    simp only [VR] at h
    obtain ⟨b, c, ⟨l, h1, _⟩, _⟩ := h
    simp only [mapV, mapA]
    rw [hs a.block (by rw [h1]; simp)]
  | .map none, y, h => rfl
  | .map (some r), y, h => by
    simp only [VR] at h
    obtain ⟨l, h1, _⟩ := h
    simp only [mapV]
    rw [hs r (by rw [h1]; simp)]
  | .chan c, y, h => rfl
  | .func f ⟨x⟩ ⟨z⟩, y, h => by
    simp only [VR] at h
    obtain ⟨g, x', z', h1, h2, h3, rfl⟩ := h
    simp only [mapV, FnR_fix hs h1, VRL_fix hs h2, VRL_fix hs h3]
  | .nilFunc, y, h => rfl
  | .iface t v, y, h => by
    simp only [VR] at h
    obtain ⟨v', h1, rfl⟩ := h
    simp only [mapV, VR_fix hs h1]
  | .nilIface, y, h => rfl
  | .agg ⟨xs⟩, y, h => by
    simp only [VR] at h
    obtain ⟨ys, h1, rfl⟩ := h
    simp only [mapV, VRL_fix hs h1]
  | .tuple ⟨xs⟩, y, h => by
    simp only [VR] at h
    obtain ⟨ys, h1, rfl⟩ := h
    simp only [mapV, VRL_fix hs h1]
theorem VRL_fix (hs : ∀ i, ρ i ≠ none → s i = i) : ∀ {v y : List Value}, VRL ρ v y → mapL s v = v
  | [], y, h => rfl
  | x :: xs, y, h => by
    simp only [VRL] at h
    obtain ⟨y, ys, h1, h2, rfl⟩ := h
    simp only [mapL, VR_fix hs h1, VRL_fix hs h2]
end

def mapE (s : Nat → Nat) (e : MapEntry) : MapEntry := { e with key := mapV s e.key, val := mapV s e.val }
def mapO (s : Nat → Nat) : Obj → Obj
  | .map es k => .map ⟨es.toList.map (mapE s)⟩ k
  | .mapIter (some m) a b c => .mapIter (some (s m)) a b c
  | .loop l => .loop { l with tmps := ⟨mapL s l.tmps.toList⟩, defers := s l.defers }
  | o => o
def mapB (s : Nat → Nat) : ABlk → ABlk
  | .arr c e ro => .arr (mapL s c) e ro
  | .obj o => .obj (mapO s o)
  | .dead => .dead
theorem mapL_length (l : List Value) : (mapL s l).length = l.length := by
  induction l with
  | nil => rfl
  | cons x l ih => simp only [mapL, List.length_cons, ih]
theorem MERL_map : ∀ {es es' : List MapEntry}, MERL ρ (es.map (mapE s)) es' → MERL (fun i => ρ (s i)) es es'
  | [], _, h => h
  | e :: es, _, h => by
    obtain ⟨e', es', h1, h2, h3⟩ := h
    exact ⟨e', es', ⟨VR_map h1.key, VR_map h1.val, h1.born⟩, MERL_map h2, h3⟩
theorem MERL_fix (hs : ∀ i, ρ i ≠ none → s i = i) : ∀ {es es' : List MapEntry}, MERL ρ es es' → es.map (mapE s) = es
  | [], _, _ => rfl
  | e :: es, _, h => by
    obtain ⟨e', es', h1, h2, h3⟩ := h
    simp only [List.map_cons, mapE, VR_fix hs h1.key, VR_fix hs h1.val, MERL_fix hs h2]
theorem OR_map {o y : Obj} (h : OR ρ (mapO s o) y) : OR (fun i => ρ (s i)) o y := by
  cases o with
  | map es k => obtain ⟨es', h1, rfl⟩ := h; exact ⟨es', MERL_map h1, rfl⟩
  | mapIter m a b c => cases m <;> exact h
  | loop l =>
    obtain ⟨l', h1, rfl⟩ := h
    exact ⟨l', ⟨h1.state, h1.pending, VRL_map h1.tmps, h1.params, h1.assign, h1.body, h1.defers⟩, rfl⟩
  | deferred d =>
    cases d with
    | none => exact h
    | some l => cases l <;> exact h
  | _ => exact h
theorem BR_map {l : Loc} {x : ABlk} (h : BR P ρ w l (mapB s x)) : BR P (fun i => ρ (s i)) w l x := by
  cases x with
  | arr c e ro =>
    obtain ⟨cs, e', fz, i, h1, h2, h3, h4, h5, h6⟩ := h
    rw [mapL_length] at h5
    exact ⟨cs, e', fz, i, h1, h2, h3, h4, VRL_map h5, h6⟩
  | obj o => obtain ⟨o', h1, h2, h3⟩ := h; exact ⟨o', h1, OR_map h2, h3⟩
  | dead => trivial
theorem mapB_rw (x : ABlk) : (mapB s x).rw = x.rw := by cases x <;> rfl
theorem mapB_live (x : ABlk) : (mapB s x).live = x.live := by cases x <;> rfl
/-- the same world under a heap whose blocks are numbered anew, some of them forgotten. -/
theorem HR.turn {H H' : AH} (h : HR P w0 ρ H w) (hn : ∀ b, H'.next ≤ b → H.next ≤ s b) (hg : ∀ b x, H'.get b = some x → H.get (s b) = some (mapB s x))
    (hi : ∀ b b' x x', H'.get b = some x → H'.get b' = some x' → s b = s b' → b = b') (hglob : ∀ g, g < P.globals.size → s g = g) : HR P w0 (fun b => ρ (s b)) H' w where
  dom b hb := h.dom (s b) (hn b hb)
  lv b l x hb hx := BR_map (h.lv (s b) l _ hb (hg b x hx))
  inj b b' l l' x x' hb hb' hx hx' r r' e := hi _ _ _ _ hx hx' (h.inj (s b) (s b') l l' _ _ hb hb' (hg b x hx) (hg b' x' hx') (by rw [mapB_rw]; exact r) (by rw [mapB_live]; exact r') e)
  ge b l x hb hx r := h.ge (s b) l _ hb (hg b x hx) (by rw [mapB_rw]; exact r)
  old := h.old
  size := h.size
  vis b l x hb hx r := h.vis (s b) l _ hb (hg b x hx) (by rw [mapB_live]; exact r)
  tot b x hx r := h.tot (s b) _ (hg b x hx) (by rw [mapB_live]; exact r)
  glob g hg := by
    obtain ⟨m, u, e⟩ := h.glob g hg
    exact ⟨m, u, by show ρ (s g) = _; rw [hglob g hg]; exact e⟩
  env := h.env

/-! pushed forward -/
section
variable {ρ' : Ren} {τ : Nat → Nat} (hp : ∀ a l, ρ a = some l → ρ' (τ a) = some l)
 include hp
theorem AR_push {a b : Addr} (h : AR ρ a b) : AR ρ' (mapA τ a) b := by
  obtain ⟨l, h1, h2, h3⟩ := h
  exact ⟨l, hp _ _ h1, h2, h3⟩
theorem FnR_push {f g : Fn} (h : FnR ρ f g) : FnR ρ' (mapF τ f) g := by
  cases f <;> cases g <;> simp only [FnR, mapF] at h ⊢ <;> try exact h
  obtain ⟨x, h1, h2⟩ := h
  exact ⟨x, hp _ _ h1, h2⟩
mutual
theorem VR_push : ∀ {v y : Value}, VR ρ v y → VR ρ' (mapV τ v) y
  | .bool a, y, h => h
  | .int k a, y, h => h
  | .float k a, y, h => h
  | .complex k a b, y, h => h
  | .string a, y, h => h
  | .pointer none, y, h => h
  | .pointer (some a), y, h => by
    simp only [mapV, VR] at h ⊢
    obtain ⟨b, h1, rfl⟩ := h
    exact ⟨b, AR_push hp h1, rfl⟩
  | .slice none n _, y, h => h
  | .slice (some a) n k, y, h => by
    simp only [mapV, VR] at h ⊢
    obtain ⟨b, c, ⟨l, h1, h2⟩, rfl⟩ := h
    exact ⟨b, c, ⟨l, hp _ _ h1, h2⟩, rfl⟩
  | .map none, y, h => h
  | .map (some r), y, h => by
    simp only [mapV, VR] at h ⊢
    obtain ⟨l, h1, h2⟩ := h
    exact ⟨l, hp _ _ h1, h2⟩
  | .chan c, y, h => h
  | .func f ⟨x⟩ ⟨z⟩, y, h => by
    simp only [mapV, VR] at h ⊢
    obtain ⟨g, x', z', h1, h2, h3, rfl⟩ := h
    exact ⟨g, x', z', FnR_push hp h1, VRL_push h2, VRL_push h3, rfl⟩
  | .nilFunc, y, h => h
  | .iface t v, y, h => by
    simp only [mapV, VR] at h ⊢
    obtain ⟨v', h1, rfl⟩ := h
    exact ⟨v', VR_push h1, rfl⟩
  | .nilIface, y, h => h
  | .agg ⟨xs⟩, y, h => by
    simp only [mapV, VR] at h ⊢
    obtain ⟨ys, h1, rfl⟩ := h
    exact ⟨ys, VRL_push h1, rfl⟩
  | .tuple ⟨xs⟩, y, h => by
    simp only [mapV, VR] at h ⊢
    obtain ⟨ys, h1, rfl⟩ := h
    exact ⟨ys, VRL_push h1, rfl⟩
theorem VRL_push : ∀ {v y : List Value}, VRL ρ v y → VRL ρ' (mapL τ v) y
  | [], y, h => h
  | x :: xs, y, h => by
    have _ := hp
    simp only [mapL, VRL] at h ⊢
    obtain ⟨y, ys, h1, h2, rfl⟩ := h
    exact ⟨y, ys, VR_push h1, VRL_push h2, rfl⟩
end
theorem MERL_push : ∀ {es es' : List MapEntry}, MERL ρ es es' → MERL ρ' (es.map (mapE τ)) es'
  | [], _, h => h
  | e :: es, _, h => by
    obtain ⟨e', es', h1, h2, h3⟩ := h
    exact ⟨e', es', ⟨VR_push hp h1.key, VR_push hp h1.val, h1.born⟩, MERL_push h2, h3⟩
theorem OR_push {o y : Obj} (h : OR ρ o y) : OR ρ' (mapO τ o) y := by
  cases o with
  | map es k => obtain ⟨es', h1, rfl⟩ := h; exact ⟨es', MERL_push hp h1, rfl⟩
  | mapIter m a b c =>
    cases m with
    | none => exact h
    | some m => obtain ⟨l, h1, h2⟩ := h; exact ⟨l, hp _ _ h1, h2⟩
  | loop l =>
    obtain ⟨l', h1, rfl⟩ := h
    obtain ⟨x, q1, q2⟩ := h1.defers
    exact ⟨l', ⟨h1.state, h1.pending, VRL_push hp h1.tmps, h1.params, h1.assign, h1.body, ⟨x, hp _ _ q1, q2⟩⟩, rfl⟩
  | deferred d =>
    cases d with
    | none => exact h
    | some l => cases l <;> exact h
  | _ => exact h
theorem BR_push {l : Loc} {x : ABlk} (h : BR P ρ w l x) : BR P ρ' w l (mapB τ x) := by
  cases x with
  | arr c e ro =>
    obtain ⟨cs, e', fz, i, h1, h2, h3, h4, h5, h6⟩ := h
    exact ⟨cs, e', fz, i, h1, h2, h3, h4, by rw [mapL_length]; exact VRL_push hp h5, h6⟩
  | obj o => obtain ⟨o', h1, h2, h3⟩ := h; exact ⟨o', h1, OR_push hp h2, h3⟩
  | dead => trivial
end
/-- a part of a heap under numbers of its own. -/
structure Canon (P : Program) (σ : Nat → Nat) (H Hc : AH) : Prop where
  next : ∀ b, Hc.next ≤ b → H.next ≤ σ b
  get : ∀ b x, Hc.get b = some x → H.get (σ b) = some (mapB σ x)
  inj : ∀ b b', b < Hc.next → b' < Hc.next → σ b = σ b' → b = b'
  glob : ∀ g, g < P.globals.size → σ g = g ∧ g < Hc.next
  tot : ∀ b, b < Hc.next → b < P.globals.size ∨ ∃ x, Hc.get b = some x ∧ x.live = true
  dom : ∀ b x, Hc.get b = some x → b < Hc.next
def tau (σ : Nat → Nat) (nc n0 c : Nat) : Nat := if c < nc then σ c else c - nc + n0
theorem HR.canon {σ' : Nat → Nat} {H Hc : AH} (h : HR P w0 ρ H w) (hc : Canon P σ' H Hc) : HR P (Base.sub w (fun b => ρ (σ' b)) Hc) (fun b => ρ (σ' b)) Hc w :=
  (h.turn hc.next hc.get (fun b b' _x _x' h1 h2 e => hc.inj b b' (hc.dom _ _ h1) (hc.dom _ _ h2) e) (fun g hg => (hc.glob g hg).1)).frame rfl fun _ _ h => h
theorem HR.uncanon {σ : Nat → Nat} {H Hc H1 H' : AH} {ρ1 : Ren} {w' : World} (h : HR P w0 ρ H w) (hc : Canon P σ H Hc) (hle : Ren.le (fun b => ρ (σ b)) ρ1) (h1 : HR P (Base.sub w (fun b => ρ (σ b)) Hc) ρ1 H1 w')
    (hn : H'.next = H.next + (H1.next - Hc.next)) (hb : ∀ b x, H'.get b = some x → (∃ c x1, b = tau σ Hc.next H.next c ∧ H1.get c = some x1 ∧ x = mapB (tau σ Hc.next H.next) x1) ∨ ((∀ c, Hc.get c ≠ none → σ c ≠ b) ∧ H.get b = some x)) :
    ∃ ρ' : Ren, ρ.le ρ' ∧ HR P w0 ρ' H' w' ∧ ∀ a l, ρ1 a = some l → ρ' (tau σ Hc.next H.next a) = some l := by
  have hcan := h.canon hc
  have f1 : ∀ c, c < Hc.next → ∃ l, ρ (σ c) = some l ∧ ρ1 c = some l := by
    intro c hlt
    rcases hc.tot c hlt with hg | ⟨x, hx, hl⟩
    · obtain ⟨m, u, e⟩ := h.glob c hg
      rw [← (hc.glob c hg).1] at e
      have e : ρ (σ c) = _ := e
      exact ⟨_, e, hle c _ e⟩
    · obtain ⟨l, e⟩ := hcan.tot c x hx hl
      exact ⟨l, e, hle c l e⟩
  have lt : ∀ b l, ρ b = some l → b < H.next := by
    intro b l e
    apply Nat.lt_of_not_le
    intro hle
    rw [h.dom b hle] at e; cases e
  let ρ' : Ren := fun b => if b < H.next then ρ b else ρ1 (b - H.next + Hc.next)
  have f2 : ∀ c, ρ' (tau σ Hc.next H.next c) = ρ1 c := by
    intro c
    by_cases hlt : c < Hc.next
    · obtain ⟨l, e1, e2⟩ := f1 c hlt
      have := lt _ _ e1
      simp only [ρ', tau, if_pos hlt, if_pos this, e1, e2]
    · have hge : ¬ (c - Hc.next + H.next < H.next) := by omega
      simp only [ρ', tau, if_neg hlt, if_neg hge]
      congr 1; omega
  have hle' : ρ.le ρ' := by
    intro b l e
    simp only [ρ', if_pos (lt b l e)]
    exact e
  have hpush : ∀ a l, ρ1 a = some l → ρ' (tau σ Hc.next H.next a) = some l := fun a l e => (f2 a).trans e
  have out : ∀ b x l, (∀ c, Hc.get c ≠ none → σ c ≠ b) → H.get b = some x → x.live = true → ρ' b = some l → ρ b = some l ∧ (Base.sub w (fun b => ρ (σ b)) Hc).fz l.blk ∧ w'.heap[l.blk]? = w.heap[l.blk]? := by
    intro b x l e1 e2 e3 e4
    obtain ⟨l0, e0⟩ := h.tot b x e2 e3
    simp only [ρ', if_pos (lt b l0 e0)] at e4
    have hf : (Base.sub w (fun b => ρ (σ b)) Hc).fz l.blk := by
      refine ⟨(h.lv b l x e4 e2).blk_lt e3, fun b0 l0 x0 q1 q2 q3 q4 => ?_⟩
      exact e1 b0 (by rw [q2]; simp) (h.inj (σ b0) b l0 l _ x q1 e4 (hc.get _ _ q2) e2 (by rw [mapB_rw]; exact q3) e3 q4)
    exact ⟨e4, hf, h1.old _ hf⟩
  have vis1 : ∀ b l x, ρ1 b = some l → H1.get b = some x → x.live = true → l.blk < w.heap.size → ∃ b0 x0 l0, ρ (σ b0) = some l0 ∧ Hc.get b0 = some x0 ∧ x0.live = true ∧ l0.blk = l.blk := by
    intro b l x e1 e2 e3 e4
    obtain ⟨b0, l0, x0, q1, q2, q3, q4⟩ := h1.vis b l x e1 e2 e3 e4
    exact ⟨b0, x0, l0, q1, q2, q3, q4⟩
  refine ⟨ρ', hle', ⟨?_, ?_, ?_, ?_, ?_, ?_, ?_, ?_, ?_, ?_⟩, hpush⟩
  · intro b hbn
    have hge : ¬ b < H.next := by omega
    simp only [ρ', if_neg hge]
    exact h1.dom _ (by omega)
  · intro b l x e1 e2
    rcases hb b x e2 with ⟨c, x1, rfl, q, rfl⟩ | ⟨q1, q2⟩
    · rw [f2] at e1
      exact BR_push hpush (h1.lv c l x1 e1 q)
    · by_cases hl : x.live = true
      · obtain ⟨p1, p2, p3⟩ := out b x l q1 q2 hl e1
        exact ((h.lv b l x p1 q2).mono hle').world p3
      · cases x <;> simp [ABlk.live] at hl; trivial
  · intro b b' l l' x x' e1 e2 e3 e4 r1 r2 e
    rcases hb b x e3 with ⟨c, x1, rfl, q, rfl⟩ | ⟨q1, q2⟩
    · rw [f2] at e1
      rw [mapB_rw] at r1
      rcases hb b' x' e4 with ⟨c', x1', rfl, u, rfl⟩ | ⟨u1, u2⟩
      · rw [f2] at e2
        rw [mapB_live] at r2
        rw [h1.inj c c' l l' x1 x1' e1 e2 q u r1 r2 e]
      · obtain ⟨p1, p2, p3⟩ := out b' x' l' u1 u2 r2 e2
        exact absurd (e ▸ p2) (h1.ge c l x1 e1 q r1)
    · obtain ⟨p1, p2, p3⟩ := out b x l q1 q2 (ABlk.live_of_rw r1) e1
      rcases hb b' x' e4 with ⟨c', x1', rfl, u, rfl⟩ | ⟨u1, u2⟩
      · exfalso
        rw [f2] at e2
        rw [mapB_live] at r2
        have hlt : l'.blk < w.heap.size := by rw [← e]; exact p2.1
        obtain ⟨b0, x0, l0, v1, v2, v3, v4⟩ := vis1 c' l' x1' e2 u r2 hlt
        exact q1 b0 (by rw [v2]; simp) (h.inj b (σ b0) l l0 x _ p1 v1 q2 (hc.get _ _ v2) r1 (by rw [mapB_live]; exact v3) (by rw [v4, e])).symm
      · obtain ⟨p4, _, _⟩ := out b' x' l' u1 u2 r2 e2
        exact h.inj b b' l l' x x' p1 p4 q2 u2 r1 r2 e
  · intro b l x e1 e2 r1 hf
    rcases hb b x e2 with ⟨c, x1, rfl, q, rfl⟩ | ⟨q1, q2⟩
    · rw [f2] at e1
      rw [mapB_rw] at r1
      have hlt : l.blk < w.heap.size := Nat.lt_of_lt_of_le (w0.lt _ hf) h.size
      refine h1.ge c l x1 e1 q r1 ⟨hlt, fun b0 l0 x0 v1 v2 v3 v4 => ?_⟩
      exact h.ge (σ b0) l0 _ v1 (hc.get _ _ v2) (by rw [mapB_rw]; exact v3) (v4 ▸ hf)
    · obtain ⟨p1, p2, p3⟩ := out b x l q1 q2 (ABlk.live_of_rw r1) e1
      exact h.ge b l x p1 q2 r1 hf
  · intro k hk
    have hf : (Base.sub w (fun b => ρ (σ b)) Hc).fz k := ⟨Nat.lt_of_lt_of_le (w0.lt _ hk) h.size, fun b0 l0 x0 v1 v2 v3 v4 => h.ge (σ b0) l0 _ v1 (hc.get _ _ v2) (by rw [mapB_rw]; exact v3) (v4 ▸ hk)⟩
    exact (h1.old k hf).trans (h.old k hk)
  · exact Nat.le_trans h.size h1.size
  · intro b l x e1 e2 r1 hlt
    rcases hb b x e2 with ⟨c, x1, rfl, q, rfl⟩ | ⟨q1, q2⟩
    · rw [f2] at e1
      rw [mapB_live] at r1
      obtain ⟨b0, x0, l0, v1, v2, v3, v4⟩ := vis1 c l x1 e1 q r1 (Nat.lt_of_lt_of_le hlt h.size)
      rw [← v4] at hlt ⊢
      exact h.vis (σ b0) l0 _ v1 (hc.get _ _ v2) (by rw [mapB_live]; exact v3) hlt
    · obtain ⟨p1, p2, p3⟩ := out b x l q1 q2 r1 e1
      exact h.vis b l x p1 q2 r1 hlt
  · intro b x e2 r1
    rcases hb b x e2 with ⟨c, x1, rfl, q, rfl⟩ | ⟨q1, q2⟩
    · rw [mapB_live] at r1
      obtain ⟨l, q⟩ := h1.tot c x1 q r1
      exact ⟨l, hpush _ _ q⟩
    · obtain ⟨l, q⟩ := h.tot b x q2 r1
      exact ⟨l, hle' _ _ q⟩
  · intro g hg; obtain ⟨m, u, e⟩ := h.glob g hg; exact ⟨m, u, hle' _ _ e⟩
  · exact ⟨h1.env.1.trans h.env.1, h1.env.2.1.trans h.env.2.1, h1.env.2.2.trans h.env.2.2⟩

inductive Cal where
  | fn (f : FuncId) (args : List Value)
  | round (l : Nat) (args : List Value)
  | dfn (f : FuncId) (args : List Value)
inductive Ret where
  | ret (v : Value)
  | pan (c : List PanicEntry)
abbrev Fns := Cal → AH → (Ret → AH → Prop) → Prop
/-- the same outcome, its new blocks (from n on) numbered anew, and some forgotten. -/
def Renum (P : Program) (n : Nat) : Ret → AH → Ret → AH → Prop
  | .ret v, H, .ret v', H' => ∃ s : Nat → Nat, v = mapV s v' ∧ (∀ b, b < n → s b = b) ∧ (∀ b, H'.next ≤ b → H.next ≤ s b) ∧ (∀ b x, H'.get b = some x → H.get (s b) = some (mapB s x)) ∧
      (∀ b b' x x', H'.get b = some x → H'.get b' = some x' → s b = s b' → b = b') ∧ (∀ g, g < P.globals.size → s g = g)
  | _, _, _, _ => False
/-- the same outcome, out of the part's own numbers. -/
def Back (σ : Nat → Nat) (H Hc : AH) : Ret → AH → Ret → AH → Prop
  | .ret v, H1, .ret v', H' => v' = mapV (tau σ Hc.next H.next) v ∧ H'.next = H.next + (H1.next - Hc.next) ∧
      ∀ b x, H'.get b = some x → (∃ c x1, b = tau σ Hc.next H.next c ∧ H1.get c = some x1 ∧ x = mapB (tau σ Hc.next H.next) x1) ∨ ((∀ c, Hc.get c ≠ none → σ c ≠ b) ∧ H.get b = some x)
  | _, _, _, _ => False
/-- a call may be looked at on a part of the heap, under numbers of its own; its new blocks may be numbered anew. -/
def Turn (P : Program) (X : Fns) : Fns
  | .fn f args, H, R =>
    (∃ R0, X (.fn f args) H R0 ∧ ∀ r H1, R0 r H1 → ∃ r' H', Renum P H.next r H1 r' H' ∧ R r' H') ∨
    (∃ σ args' Hc R0, args = mapL σ args' ∧ Canon P σ H Hc ∧ X (.fn f args') Hc R0 ∧ ∀ r H1, R0 r H1 → ∃ r' H', Back σ H Hc r H1 r' H' ∧ R r' H')
  | _, _, _ => False
end Go.Mt
/- The abstract semantics of code: what must hold at the start so that something holds at the end (no order, no capacity, no tape), as a least fixed point over the calls. -/
namespace Go.Mt

abbrev Post := Exit → Act → AH → Prop
abbrev Pre := Act → AH → Prop

def resA (Q : Post) (K : Act → AH → Prop) (a : Act) (dst : Option Tmp) : Ret → AH → Prop
  | .ret v, H => K (a.put dst v) H
  | .pan c, H => Q (.panic c) a H
/-- what must hold before an operation. -/
def stepA (_P : Program) (X : Fns) (ro : Option Nat) (o : Oper) (a : Act) (K : Pre) (Q : Post) : ARes → Prop
  | .vals l => ∀ r ∈ l, K (a.put o.dst r.1) r.2
  | .skip H => K (a.put o.dst undef) H
  | .enter f args H => X (.fn f args) H (resA Q K a o.dst)
  | .round l args H => X (.round l args) H (resA Q K a o.dst)
  | .pan v H => Q (.panic [{ v, recovered := false }]) a H
  | .dfr d H => ro = none ∧ K ({ a with defers := d :: a.defers }.put o.dst undef) H
  | .stuck => False
def opA (P : Program) (X : Fns) (ro : Option Nat) (ops : Array Oper) (Q : Post) (i : Nat) (K : Pre) (a : Act) (H : AH) : Prop :=
  match ops[i]? with
  | none => K a H
  | some o => if Region.wanted o (yielded ops a.tmps) then stepA P X ro o a K Q (aOp P a.eval o H) else K (a.put o.dst undef) H
def opsA (P : Program) (X : Fns) (ro : Option Nat) (ops : Array Oper) (Q : Post) : List Nat → Pre
  | [] => Q .normal
  | i :: rest => opA P X ro ops Q i (opsA P X ro ops Q rest)
def anyA (P : Program) (X : Fns) (ro : Option Nat) (ops : Array Oper) (Q : Post) : Nat → Array Bool → Pre
  | 0, listed => fun a H => Region.ready .any ops listed = [] ∧ Q .normal a H
  | fuel + 1, listed => fun a H => (Region.ready .any ops listed = [] → Q .normal a H) ∧
      ∀ i ∈ Region.ready .any ops listed, opA P X ro ops Q i (anyA P X ro ops Q fuel (listed.setIfInBounds i true)) a H

def thenA (K : Pre) (Q : Post) : Post
  | .normal, a, H => K a H
  | e, a, H => Q e a H
def blockA (id : Nat) (Q : Post) : Post
  | .exit id', a, H => if id' = id then Q .normal a H else Q (.exit id') a H
  | e, a, H => Q e a H
/-- a pending jump, done. -/
def jumpA (Q : Post) (a : Act) (H : AH) : Option Code → Prop
  | none => Q .normal a H
  | some .ret => Q .ret a H
  | some (.exit id) => Q (.exit id) a H
  | some (.goto l) => Q (.goto l) a H
  | _ => False
noncomputable def loopOf (H : AH) (l : Nat) : Option Loop :=
  match H.get l with
  | some (.obj (.loop r)) => some r
  | _ => none
def rangeRet (Q : Post) (a : Act) (l : Nat) : Ret → AH → Prop
  | .ret _, H => ∃ r, loopOf H l = some r ∧ r.state ≠ .busy ∧ jumpA Q a (H.set l (.obj (.loop { r with state := .exhausted }))) r.pending
  | .pan c, H => Q (.panic c) a H
def bodyOf (P : Program) (f : FuncId) : Bool :=
  match P.funcs[f]? with
  | some fn => !(fn.name == "runtime.NumGoroutine" || fn.body.isNone)
  | none => false
/-- a range over a function, from the loop's record on. -/
def rangeA (P : Program) (X : Fns) (Q : Post) (g : Value) (l : Nat) (a : Act) (H : AH) : Prop :=
  match g with
  | .func (.func f) first captured => bodyOf P f = true ∧ X (.fn f (first.toList ++ [.func (.yield l) #[] #[]] ++ captured.toList)) H (rangeRet Q a l)
  | _ => False
def wpC (P : Program) (X : Fns) (ro : Option Nat) : Code → Post → Pre
  | .skip, Q => Q .normal
  | .label _, Q => Q .normal
  | .exit id, Q => Q (.exit id)
  | .goto l, Q => Q (.goto l)
  | .ret, Q => Q .ret
  | .region _ ops false, Q => opsA P X ro ops Q (List.range ops.size)
  | .region _ ops true, Q => anyA P X ro ops Q ops.size (Array.replicate ops.size false)
  | .seq x y, Q => wpC P X ro x (thenA (wpC P X ro y Q) Q)
  | .cond c x y, Q => fun a H => ∃ b, a.eval c = .bool b ∧ (if b then wpC P X ro x Q a H else wpC P X ro y Q a H)
  | .block id c, Q => wpC P X ro c (blockA id Q)
  | .loop c, Q => fun a H => ∃ I : Nat → Pre, (∃ n, I n a H) ∧ ∀ n a H, I n a H → wpC P X ro c (thenA (fun a' H' => ∃ m, m < n ∧ I m a' H') Q) a H
  | .rangeFunc g ps assign body, Q => fun a H => match ro with
    | none => rangeA P X Q (a.eval g) (H.next + 1) { a with defers := { target := .collected H.next, args := #[] } :: a.defers }
        ((H.new (.obj (.deferred (some [])))).new (.obj (.loop { state := .ready, pending := none, fn := 0, tmps := a.tmps, params := ps, assign, body, defers := H.next })))
    | some l0 => ∃ r0, loopOf H l0 = some r0 ∧ rangeA P X Q (a.eval g) H.next a (H.new (.obj (.loop { state := .ready, pending := none, fn := 0, tmps := a.tmps, params := ps, assign, body, defers := r0.defers })))
  | .scope c, Q => wpC P X ro c (fun e a H => match e with | .goto _ => False | e => Q e a H)
  | .refuse _, _ => fun _ _ => False

/-- the results of a function. -/
noncomputable def aResults (P : Program) (fn : Func) (tmps : Array Value) (H : AH) : Option Value :=
  match fn.results.toList.mapM (fun r => match r with
    | .tmp t => some (tmps.getD t undef)
    | .cell a t => aLoad P H t (tmps.getD a undef)) with
  | some [v] => some v
  | some vs => some (.tuple ⟨vs⟩)
  | none => none
def leaveA (P : Program) (X : Fns) (fn : Func) (tmps : Array Value) (R : Ret → AH → Prop) : List Deferred → FrameMode → AH → Prop
  | [], .returning, H => ∃ v, aResults P fn tmps H = some v ∧ R (.ret v) H
  | [], .panicking c, H => R (.pan c) H
  | [], .run, _ => False
  | ⟨.collected r, _⟩ :: ds, u, H => H.get r = some (.obj (.deferred (some []))) ∧ leaveA P X fn tmps R ds u (H.set r (.obj (.deferred none)))
  | ⟨.fn (.func f) cap, args⟩ :: ds, u, H => bodyOf P f = true ∧ X (.dfn f (args.toList ++ cap.toList)) H fun
      | .ret _, H' => leaveA P X fn tmps R ds (settle u) H'
      | .pan c, H' => leaveA P X fn tmps R ds (raised u c) H'
  | _ :: _, _, _ => False
def leavePost (P : Program) (X : Fns) (fn : Func) (R : Ret → AH → Prop) : Post
  | .normal, a, H | .ret, a, H => leaveA P X fn a.tmps R a.defers .returning H
  | .panic c, a, H => leaveA P X fn a.tmps R a.defers (.panicking c) H
  | _, _, _ => False
def plainPost (P : Program) (fn : Func) (R : Ret → AH → Prop) : Post
  | .normal, a, H | .ret, a, H => a.defers = [] ∧ ∃ v, aResults P fn a.tmps H = some v ∧ R (.ret v) H
  | .panic c, a, H => a.defers = [] ∧ R (.pan c) H
  | _, _, _ => False
def roundEnd (R : Ret → AH → Prop) (l : Nat) : Post
  | .normal, _, H => ∃ r, loopOf H l = some r ∧ R (.ret (.bool true)) (H.set l (.obj (.loop { r with state := .ready, pending := none })))
  | .ret, _, H => ∃ r, loopOf H l = some r ∧ R (.ret (.bool false)) (H.set l (.obj (.loop { r with state := .done, pending := some .ret })))
  | .exit id, _, H => ∃ r, loopOf H l = some r ∧ R (.ret (.bool false)) (H.set l (.obj (.loop { r with state := .done, pending := some (.exit id) })))
  | .goto t, _, H => ∃ r, loopOf H l = some r ∧ R (.ret (.bool false)) (H.set l (.obj (.loop { r with state := .done, pending := some (.goto t) })))
  | _, _, _ => False
def enterAct (fn : Func) (args : List Value) : Act := { tmps := (⟨args⟩ : Array Value) ++ Array.replicate (fn.ntmps - args.length) undef, defers := [] }

/-- may an operand stand in code? (no address in a constant; a global that there is.) -/
def opOk (P : Program) : Operand → Bool
  | .const v => closed v
  | .global g => decide (g < P.globals.size)
  | _ => true
def codeOk (P : Program) : Code → Bool
  | .region _ ops _ => ops.toList.all fun o => o.op.operands.toList.all (opOk P)
  | .seq x y => codeOk P x && codeOk P y
  | .cond c x y => opOk P c && codeOk P x && codeOk P y
  | .block _ c | .loop c | .scope c => codeOk P c
  | .rangeFunc g _ x y => opOk P g && codeOk P x && codeOk P y
  | _ => true

def Rules (P : Program) (Spec : Fns) (X : Fns) : Fns
  | .fn f args, H, R => Spec (.fn f args) H R ∨ ∃ fn c, P.funcs[f]? = some fn ∧ fn.body = some c ∧ codeOk P c = true ∧ wpC P X none c (leavePost P X fn R) (enterAct fn args) H
  | .dfn f args, H, R => Spec (.dfn f args) H R ∨ ∃ fn c, P.funcs[f]? = some fn ∧ fn.body = some c ∧ codeOk P c = true ∧ wpC P X none c (plainPost P fn R) (enterAct fn args) H
  | .round l args, H, R => ∃ r, loopOf H l = some r ∧ codeOk P r.assign = true ∧ codeOk P r.body = true ∧
      wpC P X (some l) r.assign (fun e a H' => e = .normal ∧ ∃ r', loopOf H' l = some r' ∧ r'.state = .ready ∧
        wpC P X (some l) r.body (roundEnd R l) a (H'.set l (.obj (.loop { r' with state := .busy }))))
        { tmps := (r.params.zip ⟨args⟩).foldl (fun tmps (t, a) => tmps.setIfInBounds t a) r.tmps, defers := [] } H

def Fns.Mono (X : Fns) : Prop := ∀ c H (R R' : Ret → AH → Prop), (∀ r H, R r H → R' r H) → X c H R → X c H R'
/-- the calls: the least fixed point. -/
def W (P : Program) (Spec : Fns) : Fns := fun c H R => ∀ X : Fns, X.Mono → (∀ c H R, Rules P Spec X c H R → X c H R) → (∀ c H R, Turn P X c H R → X c H R) → X c H R

/-! monotone -/
def Fns.le (X Y : Fns) : Prop := ∀ c H R, X c H R → Y c H R
section
variable {P : Program} {X Y : Fns} (h : X.le Y) (hm : Y.Mono)
 include h hm
theorem resX {c : Cal} {H : AH} {K K' : Pre} {Q Q' : Post} {a : Act} {dst : Option Tmp} (hK : ∀ a H, K a H → K' a H) (hQ : ∀ e a H, Q e a H → Q' e a H) (hx : X c H (resA Q K a dst)) : Y c H (resA Q' K' a dst) :=
  hm _ _ _ _ (fun r H hr => by cases r <;> first | exact hK _ _ hr | exact hQ _ _ _ hr) (h _ _ _ hx)
theorem stepA_mono {ro : Option Nat} {o : Oper} {a : Act} {K K' : Pre} {Q Q' : Post} (hK : ∀ a H, K a H → K' a H) (hQ : ∀ e a H, Q e a H → Q' e a H) {r : ARes}
    (hs : stepA P X ro o a K Q r) : stepA P Y ro o a K' Q' r := by
  cases r <;> simp only [stepA] at hs ⊢
  · exact fun r hr => hK _ _ (hs r hr)
  · exact hK _ _ hs
  · exact resX h hm hK hQ hs
  · exact resX h hm hK hQ hs
  · exact hQ _ _ _ hs
  · exact ⟨hs.1, hK _ _ hs.2⟩
theorem opA_mono {ro : Option Nat} {ops : Array Oper} {a : Act} {H : AH} {i : Nat} {K K' : Pre} {Q Q' : Post} (hK : ∀ a H, K a H → K' a H) (hQ : ∀ e a H, Q e a H → Q' e a H)
    (hs : opA P X ro ops Q i K a H) : opA P Y ro ops Q' i K' a H := by
  unfold opA at *
  split
  · rename_i hi; rw [hi] at hs; exact hK _ _ hs
  · rename_i o hi
    rw [hi] at hs
    dsimp only at hs
    split
    · rename_i hw; rw [if_pos hw] at hs; exact stepA_mono h hm hK hQ hs
    · rename_i hw; rw [if_neg hw] at hs; exact hK _ _ hs
theorem opsA_mono {ro : Option Nat} {ops : Array Oper} {Q Q' : Post} (hQ : ∀ e a H, Q e a H → Q' e a H) : ∀ (l : List Nat) (a : Act) (H : AH), opsA P X ro ops Q l a H → opsA P Y ro ops Q' l a H
  | [], _a, _H, hs => hQ _ _ _ hs
  | _i :: l, _a, _H, hs => opA_mono h hm (fun a H => opsA_mono hQ l a H) hQ hs
theorem anyA_mono {ro : Option Nat} {ops : Array Oper} {Q Q' : Post} (hQ : ∀ e a H, Q e a H → Q' e a H) : ∀ (n : Nat) (l : Array Bool) (a : Act) (H : AH), anyA P X ro ops Q n l a H → anyA P Y ro ops Q' n l a H
  | 0, _l, _a, _H, hs => ⟨hs.1, hQ _ _ _ hs.2⟩
  | n + 1, _l, _a, _H, hs => ⟨fun e => hQ _ _ _ (hs.1 e), fun i hi => opA_mono h hm (fun a H => anyA_mono hQ n _ a H) hQ (hs.2 i hi)⟩
theorem rangeA_mono {Q Q' : Post} (hQ : ∀ e a H, Q e a H → Q' e a H) {g : Value} {l : Nat} {a : Act} {H : AH} (hs : rangeA P X Q g l a H) : rangeA P Y Q' g l a H := by
  unfold rangeA at *
  split at hs
  · refine ⟨hs.1, hm _ _ _ _ (fun r H hr => ?_) (h _ _ _ hs.2)⟩
    cases r with
    | ret v =>
      obtain ⟨r, h1, h2, h3⟩ := hr
      refine ⟨r, h1, h2, ?_⟩
      revert h3
      generalize r.pending = p
      intro h3
      unfold jumpA at *
      split at h3 <;> first | exact hQ _ _ _ h3 | exact h3
    | pan c => exact hQ _ _ _ hr
  · exact hs
theorem wpC_mono {ro : Option Nat} : ∀ (c : Code) {Q Q' : Post} (_ : ∀ e a H, Q e a H → Q' e a H) (a : Act) (H : AH), wpC P X ro c Q a H → wpC P Y ro c Q' a H := by
  intro c
  induction c with
  | skip => exact fun hQ a H hs => hQ _ _ _ hs
  | label l => exact fun hQ a H hs => hQ _ _ _ hs
  | exit id => exact fun hQ a H hs => hQ _ _ _ hs
  | goto l => exact fun hQ a H hs => hQ _ _ _ hs
  | ret => exact fun hQ a H hs => hQ _ _ _ hs
  | region id ops d => cases d with
    | false => exact fun hQ a H hs => opsA_mono h hm hQ _ a H hs
    | true => exact fun hQ a H hs => anyA_mono h hm hQ _ _ a H hs
  | seq x y ihx ihy =>
    intro Q Q' hQ a H hs
    refine ihx (fun e a H he => ?_) a H hs
    cases e <;> first | exact ihy hQ _ _ he | exact hQ _ _ _ he
  | cond c x y ihx ihy =>
    intro Q Q' hQ a H ⟨b, hb, hs⟩
    refine ⟨b, hb, ?_⟩
    cases b
    · exact ihy hQ _ _ hs
    · exact ihx hQ _ _ hs
  | block id c ih =>
    intro Q Q' hQ a H hs
    refine ih (fun e a H he => ?_) a H hs
    cases e <;> simp only [blockA] at he ⊢ <;> first | exact hQ _ _ _ he | skip
    split at he <;> rename_i hi <;> simp only [hi, if_true, if_false] <;> exact hQ _ _ _ he
  | loop c ih =>
    intro Q Q' hQ a H ⟨I, h0, hs⟩
    refine ⟨I, h0, fun n a H hI => ih (fun e a H he => ?_) a H (hs n a H hI)⟩
    cases e <;> first | exact he | exact hQ _ _ _ he
  | rangeFunc g ps x y ihx ihy =>
    intro Q Q' hQ a H hs
    cases ro with
    | none => exact rangeA_mono h hm hQ hs
    | some l0 => obtain ⟨r0, h1, h2⟩ := hs; exact ⟨r0, h1, rangeA_mono h hm hQ h2⟩
  | scope c ih =>
    intro Q Q' hQ a H hs
    refine ih (fun e a H he => ?_) a H hs
    cases e <;> first | exact hQ _ _ _ he | exact he
  | refuse w => exact fun hQ a H hs => hs
theorem leaveA_mono {fn : Func} {tmps : Array Value} {R R' : Ret → AH → Prop} (hR : ∀ r H, R r H → R' r H) : ∀ (ds : List Deferred) (u : FrameMode) (H : AH), leaveA P X fn tmps R ds u H → leaveA P Y fn tmps R' ds u H
  | [], .returning, H, hs => by obtain ⟨v, h1, h2⟩ := hs; exact ⟨v, h1, hR _ _ h2⟩
  | [], .panicking c, H, hs => hR _ _ hs
  | [], .run, H, hs => hs
  | ⟨.collected r, _⟩ :: ds, u, H, hs => ⟨hs.1, leaveA_mono hR ds u _ hs.2⟩
  | ⟨.fn (.func f) cap, args⟩ :: ds, u, H, hs => ⟨hs.1, hm _ _ _ _ (fun r H hr => by cases r <;> exact leaveA_mono hR ds _ _ hr) (h _ _ _ hs.2)⟩
  | ⟨.fn (.method _) _, _⟩ :: _, _, _, hs | ⟨.fn (.methodOf ..) _, _⟩ :: _, _, _, hs | ⟨.fn (.via ..) _, _⟩ :: _, _, _, hs | ⟨.fn (.yield _) _, _⟩ :: _, _, _, hs => hs.elim
  | ⟨.nil, _⟩ :: _, _, _, hs | ⟨.builtin .., _⟩ :: _, _, _, hs | ⟨.coroexit _, _⟩ :: _, _, _, hs => hs.elim
theorem Rules_mono {Spec : Fns} (hsp : Spec.Mono) {c : Cal} {H : AH} {R R' : Ret → AH → Prop} (hR : ∀ r H, R r H → R' r H) (hs : Rules P Spec X c H R) : Rules P Spec Y c H R' := by
  cases c with
  | fn f args =>
    rcases hs with hs | ⟨fn, c, h1, h2, h3, h4⟩
    · exact .inl (hsp _ _ _ _ hR hs)
    · refine .inr ⟨fn, c, h1, h2, h3, wpC_mono h hm c (fun e a H he => ?_) _ _ h4⟩
      cases e <;> first | exact leaveA_mono h hm hR _ _ _ he | exact he
  | dfn f args =>
    rcases hs with hs | ⟨fn, c, h1, h2, h3, h4⟩
    · exact .inl (hsp _ _ _ _ hR hs)
    · refine .inr ⟨fn, c, h1, h2, h3, wpC_mono h hm c (fun e a H he => ?_) _ _ h4⟩
      cases e <;> simp only [plainPost] at he ⊢ <;> first
        | (obtain ⟨q1, v, q2, q3⟩ := he; exact ⟨q1, v, q2, hR _ _ q3⟩)
        | (exact ⟨he.1, hR _ _ he.2⟩)
  | round l args =>
    obtain ⟨r, h1, h2, h3, h4⟩ := hs
    refine ⟨r, h1, h2, h3, wpC_mono h hm _ (fun e a H he => ?_) _ _ h4⟩
    obtain ⟨q1, r', q2, q3, q4⟩ := he
    refine ⟨q1, r', q2, q3, wpC_mono h hm _ (fun e a H he => ?_) _ _ q4⟩
    cases e <;> simp only [roundEnd] at he ⊢ <;> (obtain ⟨r, p1, p2⟩ := he; exact ⟨r, p1, hR _ _ p2⟩)
end
theorem W_mono {P : Program} {Spec : Fns} : (W P Spec).Mono := fun _c _H _R _R' hR hs X hm hX hT => hm _ _ _ _ hR (hs X hm hX hT)
theorem W_fold {P : Program} {Spec : Fns} (hsp : Spec.Mono) {c : Cal} {H : AH} {R : Ret → AH → Prop} (hs : Rules P Spec (W P Spec) c H R) : W P Spec c H R :=
  fun X hm hX hT => hX _ _ _ (Rules_mono (fun _ _ _ hw => hw X hm hX hT) hm hsp (fun _ _ h => h) hs)
theorem Turn_mono {P : Program} {X Y : Fns} (h : X.le Y) {c : Cal} {H : AH} {R : Ret → AH → Prop} (hs : Turn P X c H R) : Turn P Y c H R := by
  cases c with
  | fn f args =>
    rcases hs with ⟨R0, h1, h2⟩ | ⟨σ, args', Hc, R0, h1, h2, h3, h4⟩
    · exact .inl ⟨R0, h _ _ _ h1, h2⟩
    · exact .inr ⟨σ, args', Hc, R0, h1, h2, h _ _ _ h3, h4⟩
  | _ => exact hs.elim
theorem W_turn {P : Program} {Spec : Fns} {c : Cal} {H : AH} {R : Ret → AH → Prop} (hs : Turn P (W P Spec) c H R) : W P Spec c H R :=
  fun X hm hX hT => hT _ _ _ (Turn_mono (fun _ _ _ hw => hw X hm hX hT) hs)
theorem W_least {P : Program} {Spec X : Fns} (hm : X.Mono) (hX : (∀ c H R, Rules P Spec X c H R → X c H R)) (hT : (∀ c H R, Turn P X c H R → X c H R)) : (W P Spec).le X :=
  fun _ _ _ hs => hs X hm hX hT
end Go.Mt
/- What holds of the abstract semantics holds of the model. -/
namespace Go.Mt
variable {P : Program} {w0 : Base} {w w' : World} {ρ : Ren} {H : AH}

def FF : Option Nat → Fence
  | none => Fence.wide
  | some l => Fence.wide.inRound l
@[simp] theorem FF_round (r : Option Nat) : (FF r).round = r := by cases r <;> rfl
theorem FF_fn (r : Option Nat) (f : FuncId) : (FF r).fn f := by cases r <;> trivial
theorem FF_depth (r : Option Nat) : (FF r).depth = none := by cases r <;> rfl

def DRL (ρ : Ren) : List Deferred → List Deferred → Prop
  | [], l => l = []
  | d :: ds, l => ∃ d' ds', DfR ρ d d' ∧ DRL ρ ds ds' ∧ l = d' :: ds'
theorem DRL.mono {ρ ρ' : Ren} (h : ρ.le ρ') : ∀ {a b : List Deferred}, DRL ρ a b → DRL ρ' a b
  | [], _, r => r
  | _ :: _, _, ⟨d', ds', h1, h2, h3⟩ => ⟨d', ds', h1.mono h, DRL.mono h h2, h3⟩
structure ActR (ρ : Ren) (a a' : Act) : Prop where
  tmps : VRL ρ a.tmps.toList a'.tmps.toList
  defers : DRL ρ a.defers a'.defers
theorem ActR.mono {ρ ρ' : Ren} (h : ρ.le ρ') {a a' : Act} (r : ActR ρ a a') : ActR ρ' a a' := ⟨r.tmps.mono h, r.defers.mono h⟩
def ChR (ρ : Ren) : List PanicEntry → List PanicEntry → Prop
  | [], l => l = []
  | d :: ds, l => ∃ d' ds', VR ρ d.v d'.v ∧ d.recovered = d'.recovered ∧ d.goexit = d'.goexit ∧ ChR ρ ds ds' ∧ l = d' :: ds'
theorem ChR.mono {ρ ρ' : Ren} (h : ρ.le ρ') : ∀ {a b : List PanicEntry}, ChR ρ a b → ChR ρ' a b
  | [], _, r => r
  | _ :: _, _, ⟨d', ds', h1, h2, h3, h4, h5⟩ => ⟨d', ds', h1.mono h, h2, h3, ChR.mono h h4, h5⟩
def ExR (ρ : Ren) : Exit → Exit → Prop
  | .panic c, y => ∃ c', ChR ρ c c' ∧ y = .panic c'
  | .outgrown, _ => False
  | x, y => y = x
def RoR (ρ : Ren) : Option Nat → Option Nat → Prop
  | none, y => y = none
  | some l, y => ∃ x, ρ l = some x ∧ x.base = 0 ∧ y = some x.blk
theorem RoR.mono {ρ ρ' : Ren} (h : ρ.le ρ') : ∀ {a b : Option Nat}, RoR ρ a b → RoR ρ' a b
  | none, _, r => r
  | some _, _, ⟨x, h1, h2⟩ => ⟨x, h _ _ h1, h2⟩

def up (P : Program) (w0 : Base) (ρ0 : Ren) (K : Pre) (a' : Act) (w' : World) : Prop := ∃ a H ρ, ρ0.le ρ ∧ HR P w0 ρ H w' ∧ ActR ρ a a' ∧ K a H
def QR (P : Program) (w0 : Base) (ρ0 : Ren) (Q : Post) (e' : Exit) (a' : Act) (w' : World) : Prop := ∃ e a H ρ, ρ0.le ρ ∧ HR P w0 ρ H w' ∧ ActR ρ a a' ∧ ExR ρ e e' ∧ Q e a H
def EndV (ρ : Ren) : Ret → Ending → Prop
  | .ret v, e => ∃ v', VR ρ v v' ∧ e = .returned v'
  | .pan c, e => ∃ c', ChR ρ c c' ∧ e = .panicked c'
def EndR (P : Program) (w0 : Base) (ρ0 : Ren) (R : Ret → AH → Prop) (e : Ending) (w' : World) : Prop := ∃ r H ρ, ρ0.le ρ ∧ HR P w0 ρ H w' ∧ EndV ρ r e ∧ R r H

def Sound (P : Program) (w0 : Base) : Fns
  | .fn f args, H, R => ∀ ρ w args', HR P w0 ρ H w → VRL ρ args args' → CallsIn Fence.wide 0 P f ⟨args'⟩ w (EndR P w0 ρ R)
  | .dfn f args, H, R => ∀ ρ w args' u, HR P w0 ρ H w → VRL ρ args args' → CallsDIn Fence.wide 0 P f ⟨args'⟩ u w fun e u' w' => u' = u ∧ EndR P w0 ρ R e w'
  | .round l args, H, R => ∀ ρ w args' lo r r', HR P w0 ρ H w → VRL ρ args args' → ρ l = some lo → lo.base = 0 → H.get l = some (.obj (.loop r)) → w.heap[lo.blk]? = some (.loop r') → LR ρ r r' →
      RoundIn Fence.wide 0 P lo.blk r'.fn ((r'.params.zip ⟨args'⟩).foldl (fun tmps (t, a) => tmps.setIfInBounds t a) r'.tmps) r'.assign r'.body w (EndR P w0 ρ R)
theorem EndR.imp {ρ0 : Ren} {R R' : Ret → AH → Prop} (h : ∀ r H, R r H → R' r H) {e : Ending} {w : World} : EndR P w0 ρ0 R e w → EndR P w0 ρ0 R' e w :=
  fun ⟨r, H, ρ, h1, h2, h3, h4⟩ => ⟨r, H, ρ, h1, h2, h3, h _ _ h4⟩
theorem Sound_mono : (Sound P w0).Mono := by
  intro c H R R' hR hs
  cases c with
  | fn f args => exact fun ρ w args' h1 h2 => CallsIn.mono (hs ρ w args' h1 h2) fun e w' he => EndR.imp hR he
  | dfn f args => exact fun ρ w args' u h1 h2 => CallsDIn.mono (hs ρ w args' u h1 h2) fun e u' w' he => ⟨he.1, EndR.imp hR he.2⟩
  | round l args => exact fun ρ w args' lo r r' h1 h2 h3 h4 h5 h6 h7 => RoundIn.mono (hs ρ w args' lo r r' h1 h2 h3 h4 h5 h6 h7) fun e w' he => EndR.imp hR he

/-! frames -/
theorem undef_closed : closed undef = true := rfl
theorem ActR.put {a a' : Act} (h : ActR ρ a a') {v v' : Value} (hv : VR ρ v v') (dst : Option Tmp) : ActR ρ (a.put dst v) (a'.put dst v') := by
  cases dst with
  | none => exact h
  | some d => exact ⟨by simp only [Act.put, Array.toList_setIfInBounds]; exact h.tmps.set d hv, h.defers⟩
theorem ActR.eval (h : HR P w0 ρ H w) {a a' : Act} (ha : ActR ρ a a') {x : Operand} (hx : opOk P x = true) : VR ρ (a.eval x) (a'.eval x) := by
  cases x with
  | tmp t =>
    have := ha.tmps.getD t (VR.of_closed ρ undef_closed)
    simp only [Act.eval]
    rw [show a.tmps.getD t undef = a.tmps.toList.getD t undef by simp, show a'.tmps.getD t undef = a'.tmps.toList.getD t undef by simp]
    exact this
  | const v => exact VR.of_closed ρ hx
  | global g =>
    simp only [opOk, decide_eq_true_eq] at hx
    obtain ⟨m, u, hg⟩ := h.glob g hx
    have := VR.mk_ptr (o := 0) hg
    simpa [Act.eval, ptr] using this
  | func f => exact VR.of_closed ρ rfl
theorem ActR.yielded {a a' : Act} (ha : ActR ρ a a') (ops : Array Oper) : yielded ops a'.tmps = yielded ops a.tmps := by
  funext j
  unfold Go.yielded
  cases hd : (ops[j]?).bind (·.dst) with
  | none => rfl
  | some t =>
    simp only [Option.bind_some]
    have hsz := ha.tmps.length
    cases hx : a.tmps[t]? with
    | none =>
      have : a'.tmps[t]? = none := by
        rw [Array.getElem?_eq_none_iff] at hx ⊢; simp only [Array.length_toList] at hsz; omega
      rw [this]
    | some x =>
      obtain ⟨y, hy, hv⟩ := ha.tmps.get (i := t) (x := x) (by rw [Array.getElem?_toList]; exact hx)
      rw [Array.getElem?_toList] at hy
      rw [hy]
      have ht := hv.tag
      cases x <;> cases y <;> simp [Mt.tag] at ht <;> try rfl
      rw [hv.bool_inv] at hy ⊢
  
theorem semAt_of {ro : Option Nat} {ec : Operand → Value} {o : Oper} (h : ro = none ∨ ∀ c, o.op ≠ .defer c) : o.semAt ro ec = execOp ec o := by
  unfold Oper.semAt
  split
  · rename_i l c hc
    rcases h with h | h
    · cases h
    · exact absurd hc (h _)
  · rfl
theorem stepA_sem {ro ro' : Option Nat} (hro : RoR ρ ro ro') {o : Oper} {a : Act} {K : Pre} {Q : Post} {X : Fns} {ec : Operand → Value} (hs : stepA P X ro o a K Q (aOp P a.eval o H)) : o.semAt ro' ec = execOp ec o := by
  refine semAt_of ?_
  cases ro' with
  | none => exact .inl rfl
  | some l =>
    right
    intro c hc
    have hne : ro ≠ none := by rintro rfl; cases hro
    unfold aOp at hs
    rw [hc] at hs
    dsimp only at hs
    unfold aDefer at hs
    repeat' split at hs
    all_goals first | exact hs.elim | exact hne hs.1

def opsOk (P : Program) (ops : Array Oper) : Bool := ops.toList.all fun o => o.op.operands.toList.all (opOk P)
theorem opsOk_get {ops : Array Oper} (h : opsOk P ops = true) {i : Nat} {o : Oper} (hi : ops[i]? = some o) : ∀ x ∈ o.op.operands, opOk P x = true := by
  intro x hx
  have h1 : o ∈ ops.toList := by
    rw [← Array.getElem?_toList] at hi
    exact List.mem_of_getElem? hi
  exact List.all_eq_true.1 (List.all_eq_true.1 h o h1) x (by simpa using hx)

theorem step_sound {ρ0 : Ren} (hle : ρ0.le ρ) (h : HR P w0 ρ H w) {ro ro' : Option Nat} (hro : RoR ρ ro ro') {a a' : Act} (ha : ActR ρ a a') {o : Oper} (hx : ∀ x ∈ o.op.operands, opOk P x = true) {K : Pre} {Q : Post}
    (hs : stepA P (Sound P w0) ro o a K Q (aOp P a.eval o H)) : o.wpIn (FF ro') 0 P a' w (up P w0 ρ0 K) (QR P w0 ρ0 Q) := by
  refine ⟨fun f _ => FF_fn _ _, ?_⟩
  rw [FF_round, stepA_sem hro (ec := a'.eval) hs]
  have hsim := aOp_sim (P := P) h (o := o) (ea := a.eval) (ec := a'.eval) fun x hx' => ha.eval h (hx x hx')
  revert hs hsim
  generalize aOp P a.eval o H = r
  intro hs hsim
  have hdep : (FF ro').depth.isSome = true → 1 ≤ 0 := by rw [FF_depth]; intro h; cases h
  cases r with
  | vals l =>
    obtain ⟨r, hr, v', w', ρ', s1, s2, s3, s4⟩ := hsim
    rw [s1, Oper.uponIn_value]
    exact ⟨_, _, ρ', Ren.le_trans hle s2, s3, (ha.mono s2).put s4 _, hs r hr⟩
  | skip H' =>
    obtain ⟨w', ρ', s1, s2, s3⟩ := hsim
    rw [s1, Oper.uponIn_skip]
    exact ⟨_, _, ρ', Ren.le_trans hle s2, s3, (ha.mono s2).put (VR.of_closed _ undef_closed) _, hs⟩
  | enter f args H' =>
    obtain ⟨args', w', ρ', s1, s2, s3, s4⟩ := hsim
    rw [s1, Oper.uponIn_enter]
    refine ⟨hdep, ?_⟩
    have hc := hs ρ' w' args' s3 s4
    have hc' : CallsIn (FF ro') 0 P f ⟨args'⟩ w' (EndR P w0 ρ' (resA Q K a o.dst)) := by cases ro' <;> exact hc
    refine CallsIn.mono hc' fun e w'' he => ?_
    obtain ⟨r, H'', ρ'', t1, t2, t3, t4⟩ := he
    cases r with
    | ret v =>
      obtain ⟨v', hv, rfl⟩ := t3
      exact ⟨_, _, ρ'', Ren.le_trans (Ren.le_trans hle s2) t1, t2, (ha.mono (Ren.le_trans s2 t1)).put hv _, t4⟩
    | pan c =>
      obtain ⟨c', hc, rfl⟩ := t3
      exact ⟨.panic c, a, _, ρ'', Ren.le_trans (Ren.le_trans hle s2) t1, t2, ha.mono (Ren.le_trans s2 t1), ⟨c', hc, rfl⟩, t4⟩
  | round l args H' =>
    obtain ⟨lo, args', r, r', s1, s2, s3, s4, s5, s6, s7, s8⟩ := hsim
    rw [s1, Oper.uponIn_round]
    refine ⟨hdep, ?_⟩
    have hc := hs ρ w args' lo r r' s2 s3 s4 s8 s5 s6 s7
    have hc' : RoundIn (FF ro') 0 P lo.blk r'.fn ((r'.params.zip ⟨args'⟩).foldl (fun tmps (t, a) => tmps.setIfInBounds t a) r'.tmps) r'.assign r'.body w (EndR P w0 ρ (resA Q K a o.dst)) := by cases ro' <;> exact hc
    refine RoundIn.mono hc' fun e w'' he => ?_
    obtain ⟨r, H'', ρ'', t1, t2, t3, t4⟩ := he
    cases r with
    | ret v =>
      obtain ⟨v', hv, rfl⟩ := t3
      exact ⟨_, _, ρ'', Ren.le_trans hle t1, t2, (ha.mono t1).put hv _, t4⟩
    | pan c =>
      obtain ⟨c', hc, rfl⟩ := t3
      exact ⟨.panic c, a, _, ρ'', Ren.le_trans hle t1, t2, ha.mono t1, ⟨c', hc, rfl⟩, t4⟩
  | pan v H' =>
    obtain ⟨v', s1, s2, s3⟩ := hsim
    rw [s1, Oper.uponIn_panic]
    exact ⟨.panic [{ v, recovered := false }], a, _, ρ, hle, s2, ha, ⟨[{ v := v', recovered := false }], ⟨{ v := v', recovered := false }, [], s3, rfl, rfl, rfl, rfl⟩, rfl⟩, hs⟩
  | dfr d H' =>
    obtain ⟨d', s1, s2, s3⟩ := hsim
    rw [s1, Oper.uponIn_defer]
    refine ⟨_, _, ρ, hle, s2, ?_, hs.2⟩
    have : ActR ρ { a with defers := d :: a.defers } { a' with defers := d' :: a'.defers } := ⟨ha.tmps, ⟨d', a'.defers, s3, ha.defers, rfl⟩⟩
    exact this.put (VR.of_closed _ undef_closed) _
  | stuck => exact hs.elim
theorem opA_sound {ρ0 : Ren} (hle : ρ0.le ρ) (h : HR P w0 ρ H w) {ro ro' : Option Nat} (hro : RoR ρ ro ro') {a a' : Act} (ha : ActR ρ a a') {ops : Array Oper} (hok : opsOk P ops = true) {i : Nat} {K : Pre} {Q : Post} {K' : Act → World → Prop}
    (hK : ∀ a' w', up P w0 ρ0 K a' w' → K' a' w') (hs : opA P (Sound P w0) ro ops Q i K a H) : wpOpIn (FF ro') 0 P ops (QR P w0 ρ0 Q) i K' a' w := by
  unfold opA at hs
  unfold wpOpIn
  split at hs
  · rename_i hi; rw [hi]; exact hK _ _ ⟨a, H, ρ, hle, h, ha, hs⟩
  · rename_i o hi
    rw [hi]
    dsimp only
    rw [ha.yielded]
    split
    · rename_i hw; rw [if_pos hw] at hs
      exact Oper.wpIn_mono hK (step_sound hle h hro ha (opsOk_get hok hi) hs)
    · rename_i hw; rw [if_neg hw] at hs
      exact ⟨fun f _ => FF_fn _ _, hK _ _ ⟨_, H, ρ, hle, h, ha.put (VR.of_closed _ undef_closed) _, hs⟩⟩
theorem opsA_sound {ρ0 : Ren} {ro ro' : Option Nat} (hro : RoR ρ0 ro ro') {ops : Array Oper} (hok : opsOk P ops = true) {Q : Post} : ∀ (l : List Nat) {a' : Act} {w : World}, up P w0 ρ0 (opsA P (Sound P w0) ro ops Q l) a' w →
    wpOpsIn (FF ro') 0 P ops (QR P w0 ρ0 Q) l a' w
  | [], a', w, ⟨a, H, ρ, h1, h2, h3, h4⟩ => ⟨.normal, a, H, ρ, h1, h2, h3, rfl, h4⟩
  | i :: l, a', w, ⟨a, H, ρ, h1, h2, h3, h4⟩ => by
    rw [wpOpsIn_cons]
    exact opA_sound h1 h2 (hro.mono h1) h3 hok (fun a' w' h => opsA_sound hro hok l h) h4
theorem anyA_sound {ρ0 : Ren} {ro ro' : Option Nat} (hro : RoR ρ0 ro ro') {ops : Array Oper} (hok : opsOk P ops = true) {Q : Post} : ∀ (n : Nat) (listed : Array Bool) {a' : Act} {w : World}, up P w0 ρ0 (anyA P (Sound P w0) ro ops Q n listed) a' w →
    wpAnyIn (FF ro') 0 P .any ops (QR P w0 ρ0 Q) n listed a' w
  | 0, _listed, _a', _w, ⟨a, H, ρ, h1, h2, h3, h4⟩ => ⟨h4.1, .normal, a, H, ρ, h1, h2, h3, rfl, h4.2⟩
  | n + 1, _listed, _a', _w, ⟨a, H, ρ, h1, h2, h3, h4⟩ =>
    ⟨fun e => ⟨.normal, a, H, ρ, h1, h2, h3, rfl, h4.1 e⟩, fun i hi => opA_sound h1 h2 (hro.mono h1) h3 hok (fun _a' _w' h => anyA_sound hro hok n _ h) (h4.2 i hi)⟩

/-- the loop's law with a measure that is told beside the invariant. -/
theorem wpIn_loop_of {F : Fence} {n : Nat} {Q : Exit → Act → World → Prop} {c : Code} (I : Nat → Act → World → Prop)
    (round : ∀ k a w, I k a w → c.wpIn F n P (Exit.then (fun a' w' => ∃ m, m < k ∧ I m a' w') Q) a w) {k : Nat} {a : Act} {w : World} (h0 : I k a w) : (Code.loop c).wpIn F n P Q a w := by
  classical
  have hex : ∀ {a w}, (∃ k, I k a w) → ∃ k, I k a w ∧ ∀ m, m < k → ¬ I m a w := by
    intro a w ⟨k, hk⟩
    induction k using Nat.strongRecOn with
    | _ k ih =>
      by_cases hm : ∃ m, m < k ∧ I m a w
      · obtain ⟨m, hm1, hm2⟩ := hm; exact ih m hm1 hm2
      · exact ⟨k, hk, fun m hm1 hm2 => hm ⟨m, hm1, hm2⟩⟩
  let μ : Act → World → Nat := fun a w => if h : ∃ k, I k a w then Classical.choose (hex h) else 0
  refine wpIn_loop (fun a w => ∃ k, I k a w) μ ⟨k, h0⟩ fun a w hI => ?_
  have hμ : μ a w = Classical.choose (hex hI) := by simp only [μ, dif_pos hI]
  have hch := Classical.choose_spec (hex hI)
  refine wpIn_mono (round _ a w hch.1) fun e a' w' he => ?_
  cases e with
  | normal =>
    obtain ⟨m, hm, hIm⟩ := he
    refine ⟨⟨m, hIm⟩, ?_⟩
    have hI' : ∃ k, I k a' w' := ⟨m, hIm⟩
    have h2 : μ a' w' = Classical.choose (hex hI') := by simp only [μ, dif_pos hI']
    have hch' := Classical.choose_spec (hex hI')
    rw [h2, hμ]
    rcases Nat.lt_or_ge (Classical.choose (hex hI')) (Classical.choose (hex hI)) with h | h
    · exact h
    · exact absurd hIm (hch'.2 m (by omega))
  | _ => exact he

theorem QR.normal {ρ0 : Ren} {Q : Post} {a' : Act} {w : World} (h : up P w0 ρ0 (Q .normal) a' w) : QR P w0 ρ0 Q .normal a' w :=
  let ⟨a, H, ρ, h1, h2, h3, h4⟩ := h; ⟨.normal, a, H, ρ, h1, h2, h3, rfl, h4⟩
theorem up.le {ρ0 ρ : Ren} (hle : ρ0.le ρ) {K : Pre} {a' : Act} {w : World} (h : up P w0 ρ K a' w) : up P w0 ρ0 K a' w :=
  let ⟨a, H, ρ', h1, h⟩ := h; ⟨a, H, ρ', Ren.le_trans hle h1, h⟩
/-- what a code's end gives to what follows it. -/
theorem QR.then {ρ0 : Ren} {K : Pre} {Q : Post} {K' : Act → World → Prop} {Q' : Exit → Act → World → Prop} (hK : ∀ a' w', up P w0 ρ0 K a' w' → K' a' w') (hQ : ∀ e a' w', QR P w0 ρ0 Q e a' w' → Q' e a' w')
    {e : Exit} {a' : Act} {w : World} (h : QR P w0 ρ0 (thenA K Q) e a' w) : Exit.then K' Q' e a' w := by
  obtain ⟨e0, a, H, ρ, h1, h2, h3, h4, h5⟩ := h
  cases e0 with
  | normal => cases h4; exact hK _ _ ⟨a, H, ρ, h1, h2, h3, h5⟩
  | panic c => obtain ⟨c', hc, rfl⟩ := h4; exact hQ _ _ _ ⟨.panic c, a, H, ρ, h1, h2, h3, ⟨c', hc, rfl⟩, h5⟩
  | outgrown => exact h4.elim
  | exit id => cases h4; exact hQ _ _ _ ⟨.exit id, a, H, ρ, h1, h2, h3, rfl, h5⟩
  | goto l => cases h4; exact hQ _ _ _ ⟨.goto l, a, H, ρ, h1, h2, h3, rfl, h5⟩
  | ret => cases h4; exact hQ _ _ _ ⟨.ret, a, H, ρ, h1, h2, h3, rfl, h5⟩
theorem QR.block {ρ0 : Ren} {Q : Post} {id : Nat} {e : Exit} {a' : Act} {w : World} (h : QR P w0 ρ0 (blockA id Q) e a' w) : Exit.inBlock id (QR P w0 ρ0 Q) e a' w := by
  obtain ⟨e0, a, H, ρ, h1, h2, h3, h4, h5⟩ := h
  cases e0 with
  | normal => cases h4; exact ⟨.normal, a, H, ρ, h1, h2, h3, rfl, h5⟩
  | panic c => obtain ⟨c', hc, rfl⟩ := h4; exact ⟨.panic c, a, H, ρ, h1, h2, h3, ⟨c', hc, rfl⟩, h5⟩
  | outgrown => exact h4.elim
  | exit id' =>
    cases h4
    simp only [blockA] at h5
    simp only [Exit.inBlock]
    split at h5 <;> rename_i hi <;> simp only [hi, if_true, if_false]
    · exact ⟨.normal, a, H, ρ, h1, h2, h3, rfl, h5⟩
    · exact ⟨.exit id', a, H, ρ, h1, h2, h3, rfl, h5⟩
  | goto l => cases h4; exact ⟨.goto l, a, H, ρ, h1, h2, h3, rfl, h5⟩
  | ret => cases h4; exact ⟨.ret, a, H, ρ, h1, h2, h3, rfl, h5⟩

theorem loopOf_spec {l : Nat} {r : Loop} (h : loopOf H l = some r) : H.get l = some (.obj (.loop r)) := by
  unfold loopOf at h; split at h <;> cases h; assumption
theorem HR.loop (h : HR P w0 ρ H w) {l : Nat} {lo : Loc} {r : Loop} (hl : ρ l = some lo) (hr : loopOf H l = some r) : ∃ r', w.heap[lo.blk]? = some (.loop r') ∧ LR ρ r r' := by
  obtain ⟨o', h1, ⟨r', h2, rfl⟩, _⟩ := h.obj hl (loopOf_spec hr)
  exact ⟨r', h1, h2⟩
theorem putObj_sim (h : HR P w0 ρ H w) {b : Nat} {l : Loc} {o : Obj} {y y' : Obj} (hb : ρ b = some l) (hx : H.get b = some (.obj o)) (hy : OR ρ y y') : HR P w0 ρ (H.set b (.obj y)) (w.putObj l.blk y') := by
  obtain ⟨o', h1, h2, h3⟩ := h.obj hb hx
  obtain ⟨w', s1, s2⟩ := setObj_sim (P := P) h hb hx hy
  have : w' = w.putObj l.blk y' := by
    rw [run_setObj_at h1 h2.noCells] at s1
    injection s1 with _ s1
    rw [← s1]; rfl
  rw [← this]; exact s2

theorem jump_sound {F : Fence} {n : Nat} {ρ0 : Ren} {Q : Post} {a a' : Act} {p : Option Code} (hle : ρ0.le ρ) (h : HR P w0 ρ H w) (ha : ActR ρ a a') (hj : jumpA Q a H p) :
    (p = none → QR P w0 ρ0 Q .normal a' w) ∧ ∀ c, p = some c → c.wpIn F n P (QR P w0 ρ0 Q) a' w := by
  unfold jumpA at hj
  split at hj
  · exact ⟨fun _ => ⟨.normal, a, H, ρ, hle, h, ha, rfl, hj⟩, fun c hc => by cases hc⟩
  · exact ⟨fun hc => by (cases hc), fun c hc => by cases hc; exact wpIn_ret ⟨.ret, a, H, ρ, hle, h, ha, rfl, hj⟩⟩
  · exact ⟨fun hc => by (cases hc), fun c hc => by cases hc; exact wpIn_exit ⟨.exit _, a, H, ρ, hle, h, ha, rfl, hj⟩⟩
  · exact ⟨fun hc => by (cases hc), fun c hc => by cases hc; exact wpIn_goto ⟨.goto _, a, H, ρ, hle, h, ha, rfl, hj⟩⟩
  · exact hj.elim
theorem bodyOf_run {f : FuncId} (h : bodyOf P f = true) (args : Array Value) (w : World) : (callFunc f args).run P w = .ok (.enter f args) w := by
  unfold bodyOf at h
  split at h <;> try cases h
  rename_i fn hf
  simp only [Bool.not_eq_true', Bool.or_eq_false_iff] at h
  simp only [callFunc, Sem.run_bind, run_program, Result.andThen_ok, hf, h.1, h.2, Bool.false_eq_true, if_false, Sem.run_pure]
end Go.Mt
/- What holds of the abstract semantics holds of the model: code, functions, rounds. -/
namespace Go.Mt
variable {P : Program} {w0 : Base} {w w' : World} {ρ : Ren} {H : AH}

theorem range_core {ρ0 : Ren} (hle : ρ0.le ρ) (h : HR P w0 ρ H w) {ro' : Option Nat} {a a' : Act} (ha : ActR ρ a a') {gv gv' : Value} (hg : VR ρ gv gv') {l : Nat} {lo : Loc} (hl : ρ l = some lo) (hb : lo.base = 0) {Q : Post}
    (hs : rangeA P (Sound P w0) Q gv l a H) {ev : Operand → Value} {g : Operand} (hev : ev g = gv') (hcv : ∀ v, ev (.const v) = v) :
    ∃ d f args, (resolve ev (rangeCall g lo.blk) 0).run P w = .ok d w ∧ (invoke d.target d.args).run P w = .ok (.enter f args) w ∧
      CallsIn (FF ro') 0 P f args w (rangePost (FF ro') 0 P lo.blk (QR P w0 ρ0 Q) a') := by
  unfold rangeA at hs
  split at hs
  · rename_i f first captured
    obtain ⟨hbody, hc⟩ := hs
    obtain ⟨first⟩ := first
    obtain ⟨captured⟩ := captured
    simp only [VR] at hg
    obtain ⟨g', x', z', hgf, hx', hz', rfl⟩ := hg
    have hg' : g' = .func f := by cases g' <;> simp [FnR] at hgf; rw [hgf]
    subst hg'
    have hy : VR ρ (.func (.yield l) #[] #[]) (.func (.yield lo.blk) #[] #[]) := by
      simp only [VR, VRL]; exact ⟨.yield lo.blk, [], [], ⟨lo, hl, hb, rfl⟩, rfl, rfl, rfl⟩
    have hargs : VRL ρ (first ++ [.func (.yield l) #[] #[]] ++ captured) (x' ++ [.func (.yield lo.blk) #[] #[]] ++ z') := (hx'.append (VRL.cons hy (by simp [VRL]))).append hz'
    refine ⟨{ target := .fn (.func f) ⟨z'⟩, args := (⟨x'⟩ : Array Value) ++ #[.func (.yield lo.blk) #[] #[]] }, f, ⟨x' ++ [.func (.yield lo.blk) #[] #[]] ++ z'⟩, ?_, ?_, ?_⟩
    · simp [resolve, hev, Deferred.ofValue, hcv]
    · simp only [invoke]
      rw [show ((⟨x'⟩ : Array Value) ++ #[.func (.yield lo.blk) #[] #[]] ++ ⟨z'⟩ : Array Value) = ⟨x' ++ [.func (.yield lo.blk) #[] #[]] ++ z'⟩ by simp]
      exact bodyOf_run hbody _ w
    · have hcall := hc ρ w _ h hargs
      have hcall' : CallsIn (FF ro') 0 P f ⟨x' ++ [.func (.yield lo.blk) #[] #[]] ++ z'⟩ w (EndR P w0 ρ (rangeRet Q a l)) := by cases ro' <;> exact hcall
      refine CallsIn.mono hcall' fun e w'' he => ?_
      obtain ⟨r, H'', ρ'', t1, t2, t3, t4⟩ := he
      cases r with
      | ret v =>
        obtain ⟨v', hv, rfl⟩ := t3
        obtain ⟨r, q1, q2, q3⟩ := t4
        obtain ⟨r', p1, p2⟩ := t2.loop (t1 _ _ hl) q1
        have hend := run_endLoop (P := P) p1 (by rw [← p2.state]; exact q2)
        refine ⟨_, _, hend, ?_⟩
        have hput := putObj_sim (y := .loop { r with state := .exhausted }) (y' := .loop { r' with state := .exhausted }) t2 (t1 _ _ hl) (loopOf_spec q1)
          ⟨{ r' with state := .exhausted }, ⟨rfl, p2.pending, p2.tmps, p2.params, p2.assign, p2.body, p2.defers⟩, rfl⟩
        have hj := jump_sound (F := FF ro') (n := 0) (Ren.le_trans hle t1) hput (ha.mono t1) q3
        have hp := p2.pending
        revert hj hp
        generalize hrp : r.pending = p
        intro hj hp
        cases p with
        | none => have h1 := hj.1 rfl; simp only [← hp] at h1 ⊢; exact h1
        | some c => have h1 := hj.2 c rfl; simp only [← hp] at h1 ⊢; exact h1
      | pan c =>
        obtain ⟨c', hc, rfl⟩ := t3
        exact ⟨.panic c, a, _, ρ'', Ren.le_trans hle t1, t2, ha.mono t1, ⟨c', hc, rfl⟩, t4⟩
  · exact hs.elim

theorem codeOk_region {id : Nat} {ops : Array Oper} {d : Bool} (h : codeOk P (.region id ops d) = true) : opsOk P ops = true := h
theorem wpIn_scope {F : Fence} {n : Nat} {Q : Exit → Act → World → Prop} {c : Code} {a : Act} (h : c.wpIn F n P (fun e a w => (∀ l, e ≠ .goto l) ∧ Q e a w) a w) : (Code.scope c).wpIn F n P Q a w := by
  intro b k cs hro hb hr
  obtain ⟨e, a₁, w₁, hq, harr⟩ := h b (.inScope c :: k) cs hro hb hr
  have h1 : step P (lone (b.atR a (.code (.scope c) :: k)) cs w) = .next (lone (b.atR a (.code c :: .inScope c :: k)) cs w) := step_lone_go (by simp [stepG, stepG.exec, Frame.atR])
  have h2 : ∀ (a : Act) (w : World), step P (lone (b.atR a (.inScope c :: k)) cs w) = .next (lone (b.atR a k) cs w) := fun a w => step_lone_go (by simp [stepG, stepG.exec, Frame.atR])
  have i0 : StepsIn (Machine.fenced P F) P (lone (b.atR a (.code (.scope c) :: k)) cs w) (lone (b.atR a (.code c :: .inScope c :: k)) cs w) := .one (fenced_calm hb hr rfl) h1
  cases e with
  | normal => exact ⟨.normal, a₁, w₁, hq.2, i0.trans (StepsIn.trans harr (.one (fenced_calm (fr := b.atR a₁ (.inScope c :: k)) hb hr rfl) (h2 a₁ w₁)))⟩
  | exit id =>
    have hx : exitTo id (.inScope c :: k) = exitTo id k := rfl
    exact ⟨.exit id, a₁, w₁, hq.2, fun k' hk => i0.trans (harr.1 k' (by rw [hx]; exact hk)), fun hr' hk => let ⟨k₁, h1, h2⟩ := harr.2 hr' (by rw [hx]; exact hk); ⟨k₁, h1, i0.trans h2⟩⟩
  | goto l => exact absurd rfl (hq.1 l)
  | ret => exact ⟨.ret, a₁, w₁, hq.2, .of_steps i0 harr⟩
  | panic ch => exact ⟨.panic ch, a₁, w₁, hq.2, .of_steps i0 harr⟩
  | outgrown => exact ⟨.outgrown, a₁, w₁, hq.2, .of_steps (k := k) i0 harr⟩

theorem wpC_sound {ro : Option Nat} (hfollow : P.follows .mixedOrders = true) : ∀ (c : Code), codeOk P c = true → ∀ (ρ0 : Ren) (ro' : Option Nat), RoR ρ0 ro ro' → ∀ (Q : Post) (a' : Act) (w : World),
    up P w0 ρ0 (wpC P (Sound P w0) ro c Q) a' w → c.wpIn (FF ro') 0 P (QR P w0 ρ0 Q) a' w := by
  intro c
  induction c with
  | skip => exact fun _ ρ0 ro' _ Q a' w h => wpIn_skip (QR.normal h)
  | label l => exact fun _ ρ0 ro' _ Q a' w h => wpIn_label (QR.normal h)
  | exit id => exact fun _ ρ0 ro' _ Q a' w ⟨a, H, ρ, h1, h2, h3, h4⟩ => wpIn_exit ⟨.exit id, a, H, ρ, h1, h2, h3, rfl, h4⟩
  | goto l => exact fun _ ρ0 ro' _ Q a' w ⟨a, H, ρ, h1, h2, h3, h4⟩ => wpIn_goto ⟨.goto l, a, H, ρ, h1, h2, h3, rfl, h4⟩
  | ret => exact fun _ ρ0 ro' _ Q a' w ⟨a, H, ρ, h1, h2, h3, h4⟩ => wpIn_ret ⟨.ret, a, H, ρ, h1, h2, h3, rfl, h4⟩
  | region id ops d =>
    intro hok ρ0 ro' hro Q a' w h
    cases d with
    | false => exact wpIn_region (opsA_sound hro (codeOk_region hok) _ h)
    | true =>
      obtain ⟨a, H, ρ, h1, h2, h3, h4⟩ := h
      exact wpIn_region_any hfollow (anyA_sound hro (codeOk_region hok) _ _ ⟨a, H, ρ, h1, h2.same rfl rfl rfl rfl, h3, h4⟩)
  | seq x y ihx ihy =>
    intro hok ρ0 ro' hro Q a' w h
    simp only [codeOk, Bool.and_eq_true] at hok
    exact wpIn_seq (wpIn_mono (ihx hok.1 ρ0 ro' hro _ a' w h) fun e a' w he => QR.then (fun a' w' h => ihy hok.2 ρ0 ro' hro Q a' w' h) (fun _ _ _ h => h) he)
  | cond c x y ihx ihy =>
    intro hok ρ0 ro' hro Q a' w ⟨a, H, ρ, h1, h2, h3, b, hb, h4⟩
    simp only [codeOk, Bool.and_eq_true] at hok
    have hev := h3.eval h2 hok.1.1
    rw [hb] at hev
    refine wpIn_cond hev.bool_inv ?_
    cases b
    · exact ihy hok.2 ρ0 ro' hro Q a' w ⟨a, H, ρ, h1, h2, h3, h4⟩
    · exact ihx hok.1.2 ρ0 ro' hro Q a' w ⟨a, H, ρ, h1, h2, h3, h4⟩
  | block id c ih =>
    intro hok ρ0 ro' hro Q a' w h
    exact wpIn_block (wpIn_mono (ih hok ρ0 ro' hro _ a' w h) fun e a' w he => QR.block he)
  | loop c ih =>
    intro hok ρ0 ro' hro Q a' w ⟨a, H, ρ, h1, h2, h3, I, ⟨n, h0⟩, h4⟩
    refine wpIn_loop_of (fun k a' w => up P w0 ρ0 (I k) a' w) (fun k a' w hI => ?_) (k := n) ⟨a, H, ρ, h1, h2, h3, h0⟩
    obtain ⟨a, H, ρ, h1, h2, h3, hI⟩ := hI
    refine wpIn_mono (ih hok ρ0 ro' hro _ a' w ⟨a, H, ρ, h1, h2, h3, h4 k a H hI⟩) fun e a' w he => QR.then (fun a' w' h => ?_) (fun _ _ _ h => h) he
    obtain ⟨a, H, ρ, h1, h2, h3, m, hm, hI⟩ := h
    exact ⟨m, hm, a, H, ρ, h1, h2, h3, hI⟩
  | rangeFunc g ps x y ihx ihy =>
    intro hok ρ0 ro' hro Q a' w ⟨a, H, ρ, h1, h2, h3, h4⟩
    simp only [codeOk, Bool.and_eq_true] at hok
    refine wpIn_rangeFunc fun fn _ => ?_
    have hev := h3.eval h2 hok.1.1
    rw [FF_round]
    cases ro with
    | none =>
      cases hro
      obtain ⟨lb, s1, s2, s3, s4⟩ := newObj_sim (P := P) h2 (y := .deferred (some [])) (y' := .deferred (some [])) rfl
      have hdef : ∀ ρ' : Ren, (ρ.upd H.next lb).le ρ' → ∃ x, ρ' H.next = some x ∧ x.base = 0 ∧ lb.blk = x.blk := fun ρ' hl => ⟨lb, hl _ _ (Ren.upd_same _ _ _), s2, rfl⟩
      obtain ⟨ll, t1, t2, t3, t4⟩ := newObj_sim (P := P) s4 (y := .loop { state := .ready, pending := none, fn := 0, tmps := a.tmps, params := ps, assign := x, body := y, defers := H.next })
        (y' := .loop { state := .ready, pending := none, fn := fn, tmps := a'.tmps, params := ps, assign := x, body := y, defers := lb.blk })
        ⟨{ state := .ready, pending := none, fn := fn, tmps := a'.tmps, params := ps, assign := x, body := y, defers := lb.blk }, ⟨rfl, rfl, h3.tmps.mono s3, rfl, rfl, rfl, hdef _ (Ren.le_refl _)⟩, rfl⟩
      have hlb : lb.blk = w.heap.size := by simp only [run_newObj] at s1; injection s1 with s1; exact s1.symm
      have hll : ll.blk = w.heap.size + 1 := by simp only [run_newObj, Array.size_push] at t1; injection t1 with t1; exact t1.symm
      have hact : ActR ((ρ.upd H.next lb).upd (H.new (.obj (.deferred (some [])))).next ll) { a with defers := { target := .collected H.next, args := #[] } :: a.defers } { a' with defers := { target := .collected w.heap.size, args := #[] } :: a'.defers } := by
        refine ⟨(h3.tmps.mono s3).mono t3, { target := .collected w.heap.size, args := #[] }, a'.defers, ?_, (h3.defers.mono s3).mono t3, rfl⟩
        exact ⟨lb, t3 _ _ (Ren.upd_same _ _ _), s2, by rw [hlb]⟩
      simp only [wpC] at h4
      rw [← AH.new_next (x := .obj (.deferred (some [])))] at h4
      obtain ⟨d, f, args, q1, q2, q3⟩ := range_core (ρ0 := ρ0) (ro' := none) (g := g) (ev := a'.eval) (Ren.le_trans h1 (Ren.le_trans s3 t3)) t4 hact ((hev.mono s3).mono t3) (l := (H.new (.obj (.deferred (some [])))).next) (lo := ll) (Ren.upd_same _ _ _) t2 h4 rfl (fun _ => rfl)
      rw [hlb] at q1 q2 q3
      rw [hll] at q1 q3
      have henter := run_enterLoop_outer (P := P) (w := w) fn a'.tmps ps x y
      exact ⟨w.heap.size + 1, [{ target := .collected w.heap.size, args := #[] }], _, d, _, f, args, _, henter, q1, fun _ _ => FF_fn _ _, q2, fun h => by (rw [FF_depth] at h; cases h), q3⟩
    | some l0 =>
      obtain ⟨r0, e1, e2⟩ := h4
      obtain ⟨lx, e3, e4, e5⟩ := hro
      obtain ⟨r0', p1, p2⟩ := h2.loop (h1 _ _ e3) e1
      subst e5
      obtain ⟨ll, t1, t2, t3, t4⟩ := newObj_sim (P := P) h2 (y := .loop { state := .ready, pending := none, fn := 0, tmps := a.tmps, params := ps, assign := x, body := y, defers := r0.defers })
        (y' := .loop { state := .ready, pending := none, fn := fn, tmps := a'.tmps, params := ps, assign := x, body := y, defers := r0'.defers })
        ⟨{ state := .ready, pending := none, fn := fn, tmps := a'.tmps, params := ps, assign := x, body := y, defers := r0'.defers }, ⟨rfl, rfl, h3.tmps, rfl, rfl, rfl, p2.defers⟩, rfl⟩
      have hll : ll.blk = w.heap.size := by simp only [run_newObj] at t1; injection t1 with t1; exact t1.symm
      have hact : ActR (ρ.upd H.next ll) a { a' with defers := [] ++ a'.defers } := h3.mono t3
      obtain ⟨d, f, args, q1, q2, q3⟩ := range_core (ρ0 := ρ0) (ro' := some lx.blk) (g := g) (ev := a'.eval) (Ren.le_trans h1 t3) t4 hact (hev.mono t3) (l := H.next) (lo := ll) (Ren.upd_same _ _ _) t2 e2 rfl (fun _ => rfl)
      rw [hll] at q1 q3
      have henter := run_enterLoop_inner (P := P) (w := w) p1 fn a'.tmps ps x y
      exact ⟨w.heap.size, [], _, d, _, f, args, _, henter, q1, fun _ _ => FF_fn _ _, q2, fun h => by (rw [FF_depth] at h; cases h), q3⟩
  | scope c ih =>
    intro hok ρ0 ro' hro Q a' w h
    refine wpIn_scope (wpIn_mono (ih hok ρ0 ro' hro _ a' w h) fun e a' w he => ?_)
    obtain ⟨e0, a, H, ρ, h1, h2, h3, h4, h5⟩ := he
    cases e0 with
    | goto l => exact h5.elim
    | panic c => obtain ⟨c', hc, rfl⟩ := h4; exact ⟨fun l h => by (cases h), .panic c, a, H, ρ, h1, h2, h3, ⟨c', hc, rfl⟩, h5⟩
    | outgrown => exact h4.elim
    | normal => cases h4; exact ⟨fun l h => by (cases h), .normal, a, H, ρ, h1, h2, h3, rfl, h5⟩
    | exit id => cases h4; exact ⟨fun l h => by (cases h), .exit id, a, H, ρ, h1, h2, h3, rfl, h5⟩
    | ret => cases h4; exact ⟨fun l h => by (cases h), .ret, a, H, ρ, h1, h2, h3, rfl, h5⟩
  | refuse w => exact fun _ ρ0 ro' _ Q a' w ⟨a, H, ρ, h1, h2, h3, h4⟩ => h4.elim
end Go.Mt
/- Functions, rounds, deferred calls: the least fixed point is sound. -/
namespace Go.Mt
variable {P : Program} {w0 : Base} {w w' : World} {ρ : Ren} {H : AH}

def resRun (tmps : Array Value) (r : ResultVar) : Sem Value := match r with
  | .tmp t => pure (tmps.getD t undef)
  | .cell a t => do loadVar t (← asAddr (tmps.getD a undef))
theorem getD_sim {tmps tmps' : Array Value} (h : VRL ρ tmps.toList tmps'.toList) (t : Nat) : VR ρ (tmps.getD t undef) (tmps'.getD t undef) := by
  have := h.getD t (VR.of_closed ρ undef_closed)
  rw [show tmps.getD t undef = tmps.toList.getD t undef by simp, show tmps'.getD t undef = tmps'.toList.getD t undef by simp]
  exact this
theorem resRun_sim (h : HR P w0 ρ H w) {tmps tmps' : Array Value} (ht : VRL ρ tmps.toList tmps'.toList) {r : ResultVar} {v : Value}
    (hr : (match r with
    | .tmp t => some (tmps.getD t undef)
    | .cell a t => aLoad P H t (tmps.getD a undef)) = some v) : ∃ v', (resRun tmps' r).run P w = .ok v' w ∧ VR ρ v v' := by
  cases r with
  | tmp t => cases hr; exact ⟨_, rfl, getD_sim ht t⟩
  | cell a t =>
    dsimp only at hr
    have ha := getD_sim ht a
    obtain ⟨v', s1, s2⟩ := aLoad_sim h ha hr
    refine ⟨v', ?_, s2⟩
    revert hr ha s1
    generalize tmps.getD a undef = x
    generalize hy : tmps'.getD a undef = y
    intro hr ha s1
    have hx : ∃ ad, x = .pointer (some ad) := by
      unfold aLoad at hr; split at hr
      · exact ⟨_, rfl⟩
      · cases hr
    obtain ⟨ad, rfl⟩ := hx
    obtain ⟨l, _, _, rfl⟩ := ha.ptr_some
    simp only [resRun, hy, asAddr, Sem.run_bind, Sem.run_pure, Result.andThen_ok]
    simpa only [Instr.loadAt, Instr.sureAddr, Sem.run_bind, Sem.run_pure, Result.andThen_ok] using s1
theorem mapM_sim (h : HR P w0 ρ H w) {tmps tmps' : Array Value} (ht : VRL ρ tmps.toList tmps'.toList) : ∀ (l : List ResultVar) {vs : List Value},
    l.mapM (fun r => match r with
    | .tmp t => some (tmps.getD t undef)
    | .cell a t => aLoad P H t (tmps.getD a undef)) = some vs → ∃ vs', (l.mapM (resRun tmps')).run P w = .ok vs' w ∧ VRL ρ vs vs'
  | [], vs, e => by cases e; exact ⟨[], rfl, rfl⟩
  | r :: l, vs, e => by
    simp only [List.mapM_cons, Option.bind_eq_bind, Option.pure_def, Option.bind_eq_some_iff] at e
    obtain ⟨v, h1, vs1, h2, h3⟩ := e
    cases h3
    obtain ⟨v', s1, s2⟩ := resRun_sim h ht h1
    obtain ⟨vs', t1, t2⟩ := mapM_sim h ht l h2
    refine ⟨v' :: vs', ?_, VRL.cons s2 t2⟩
    simp only [List.mapM_cons, Sem.run_bind, s1, t1, Result.andThen_ok, Sem.run_pure]
theorem aResults_sim (h : HR P w0 ρ H w) {fn : Func} {tmps tmps' : Array Value} (ht : VRL ρ tmps.toList tmps'.toList) {v : Value} (hr : aResults P fn tmps H = some v) :
    ∃ v', (results fn tmps').run P w = .ok v' w ∧ VR ρ v v' := by
  unfold aResults at hr
  have hrun : ∀ vs', (fn.results.toList.mapM (resRun tmps')).run P w = .ok vs' w → (results fn tmps').run P w = .ok (if h : (⟨vs'⟩ : Array Value).size = 1 then (⟨vs'⟩ : Array Value)[0] else .tuple ⟨vs'⟩) w := by
    intro vs' hv
    have h2 : (fn.results.mapM (resRun tmps')).run P w = .ok ⟨vs'⟩ w := by
      rw [Array.mapM_eq_mapM_toList]
      simp only [map_eq_pure_bind, Sem.run_bind, hv, Result.andThen_ok, Sem.run_pure]
    unfold results
    simp only [Sem.run_bind]
    erw [h2]
    simp only [Result.andThen_ok, Sem.run_pure]
  split at hr
  · rename_i v0 hm
    cases hr
    obtain ⟨vs', s1, s2⟩ := mapM_sim h ht _ hm
    simp only [VRL] at s2
    obtain ⟨v', t1, hv, hnil, rfl⟩ := s2
    cases hnil
    exact ⟨v', hrun _ s1, hv⟩
  · rename_i vs hns hm
    cases hr
    obtain ⟨vs', s1, s2⟩ := mapM_sim h ht _ hm
    refine ⟨.tuple ⟨vs'⟩, ?_, by simp only [VR]; exact ⟨vs', s2, rfl⟩⟩
    rw [hrun _ s1]
    have hl := s2.length
    have : ¬ (⟨vs'⟩ : Array Value).size = 1 := by
      intro h1
      simp only [List.size_toArray] at h1
      rw [h1] at hl
      match vs, hl with
      | [v], _ => exact hns v rfl
    rw [dif_neg this]
  · cases hr


def ModeR (ρ : Ren) : FrameMode → FrameMode → Prop
  | .returning, y => y = .returning
  | .panicking c, y => ∃ c', ChR ρ c c' ∧ y = .panicking c'
  | .run, _ => False
theorem ChR.dropWhile {c c' : List PanicEntry} (h : ChR ρ c c') : ChR ρ (c.dropWhile (!·.goexit)) (c'.dropWhile (!·.goexit)) := by
  induction c generalizing c' with
  | nil => cases h; exact rfl
  | cons d ds ih =>
    have h0 := h
    obtain ⟨d', ds', h1, h2, h3, h4, rfl⟩ := h
    simp only [List.dropWhile_cons, ← h3]
    split
    · exact ih h4
    · exact h0
theorem ChR.append {a a' b b' : List PanicEntry} (h : ChR ρ a a') (h' : ChR ρ b b') : ChR ρ (a ++ b) (a' ++ b') := by
  induction a generalizing a' with
  | nil => cases h; exact h'
  | cons d ds ih =>
    obtain ⟨d', ds', h1, h2, h3, h4, rfl⟩ := h
    exact ⟨d', _, h1, h2, h3, ih h4, rfl⟩
theorem ModeR.settle {u u' : FrameMode} (h : ModeR ρ u u') : ModeR ρ (settle u) (settle u') := by
  cases u with
  | run => exact h.elim
  | returning => cases h; exact rfl
  | panicking c =>
    obtain ⟨c', hc, rfl⟩ := h
    cases c with
    | nil => cases hc; exact ⟨[], rfl, rfl⟩
    | cons d ds =>
      have hc0 := hc
      obtain ⟨d', ds', h1, h2, h3, h4, rfl⟩ := hc
      obtain ⟨v, r, g⟩ := d
      obtain ⟨v', r', g'⟩ := d'
      dsimp only at h1 h2 h3
      subst h2 h3
      cases r with
      | false => exact ⟨_, hc0, rfl⟩
      | true =>
        have hd := h4.dropWhile
        simp only [Go.settle]
        revert hd
        generalize ds.dropWhile (!·.goexit) = x
        generalize ds'.dropWhile (!·.goexit) = y
        intro hd
        cases x with
        | nil => cases hd; exact rfl
        | cons e es =>
          have hd0 := hd
          obtain ⟨e', es', _, _, _, _, rfl⟩ := hd
          exact ⟨_, hd0, rfl⟩
theorem ModeR.raised {u u' : FrameMode} (h : ModeR ρ u u') {c c' : List PanicEntry} (hc : ChR ρ c c') : ModeR ρ (raised u c) (raised u' c') := by
  cases u with
  | run => exact h.elim
  | returning => cases h; exact ⟨c', hc, rfl⟩
  | panicking c0 => obtain ⟨c0', h0, rfl⟩ := h; exact ⟨_, hc.append h0, rfl⟩
theorem ModeR.mono {ρ ρ' : Ren} (hl : ρ.le ρ') {u u' : FrameMode} (h : ModeR ρ u u') : ModeR ρ' u u' := by
  cases u with
  | run => exact h.elim
  | returning => exact h
  | panicking c0 => obtain ⟨c0', h0, rfl⟩ := h; exact ⟨_, h0.mono hl, rfl⟩
theorem ModeR.ne_run {u u' : FrameMode} (h : ModeR ρ u u') : u' ≠ .run := by
  cases u with
  | run => exact h.elim
  | returning => cases h; simp
  | panicking c => obtain ⟨c', _, rfl⟩ := h; simp

theorem leave_sound {ρ0 : Ren} {fn : Func} {tmps tmps' : Array Value} {R : Ret → AH → Prop} : ∀ (ds : List Deferred) (u u' : FrameMode) (H : AH) (ρ : Ren) (w : World) (ds' : List Deferred),
    ρ0.le ρ → HR P w0 ρ H w → VRL ρ tmps.toList tmps'.toList → DRL ρ ds ds' → ModeR ρ u u' → leaveA P (Sound P w0) fn tmps R ds u H → LeavesInM Fence.wide 0 P fn tmps' (EndR P w0 ρ0 R) ds' u' w := by
  intro ds
  induction ds with
  | nil =>
    intro u u' H ρ w ds' hle h ht hd hu hs
    cases hd
    cases u with
    | run => exact hu.elim
    | returning =>
      cases hu
      obtain ⟨v, h1, h2⟩ := hs
      obtain ⟨v', s1, s2⟩ := aResults_sim h ht h1
      exact ⟨v', s1, .ret v, H, ρ, hle, h, ⟨v', s2, rfl⟩, h2⟩
    | panicking c =>
      obtain ⟨c', hc, rfl⟩ := hu
      exact ⟨.pan c, H, ρ, hle, h, ⟨c', hc, rfl⟩, hs⟩
  | cons d ds ih =>
    intro u u' H ρ w ds' hle h ht hd hu hs
    obtain ⟨d', ds1, hd1, hd2, rfl⟩ := hd
    refine ⟨hu.ne_run, ?_⟩
    obtain ⟨tg, args⟩ := d
    cases tg with
    | collected r =>
      simp only [leaveA] at hs
      obtain ⟨l, e1, e2, rfl⟩ := hd1
      obtain ⟨o', p1, p2, _⟩ := h.obj e1 hs.1
      simp only [OR] at p2
      subst p2
      left
      refine ⟨l.blk, _, rfl, run_takeDeferred p1, ?_⟩
      exact ih u u' _ ρ _ ds1 hle (putObj_sim (y := .deferred none) (y' := .deferred none) h e1 hs.1 rfl) ht hd2 hu hs.2
    | fn fv cap =>
      cases fv with
      | func f =>
        obtain ⟨cap', args', e1, e2, rfl⟩ := hd1
        simp only [leaveA] at hs
        obtain ⟨hb, hc⟩ := hs
        right
        refine ⟨fun h => (by cases h), .func f, ⟨cap'⟩, f, ⟨args' ++ cap'⟩, rfl, ?_, fun _ _ => trivial, ?_⟩
        · simp only [invoke]
          rw [show ((⟨args'⟩ : Array Value) ++ ⟨cap'⟩ : Array Value) = ⟨args' ++ cap'⟩ by simp]
          exact bodyOf_run hb _ w
        · refine CallsDIn.mono (hc ρ w _ u' h (e2.append e1)) fun e u'' w'' he => ?_
          obtain ⟨rfl, r, H'', ρ'', t1, t2, t3, t4⟩ := he
          cases r with
          | ret v =>
            obtain ⟨v', hv, rfl⟩ := t3
            exact ih (settle u) (settle u'') H'' ρ'' w'' ds1 (Ren.le_trans hle t1) t2 (ht.mono t1) (hd2.mono t1) (hu.mono t1).settle t4
          | pan c =>
            obtain ⟨c', hc, rfl⟩ := t3
            exact ih (raised u c) (raised u'' c') H'' ρ'' w'' ds1 (Ren.le_trans hle t1) t2 (ht.mono t1) (hd2.mono t1) ((hu.mono t1).raised hc) t4
      | _ => exact hs.elim
    | _ => exact hs.elim

theorem HR.enter (_h : HR P w0 ρ H w) {fn : Func} {args args' : List Value} (ha : VRL ρ args args') :
    ActR ρ (enterAct fn args) { tmps := (⟨args'⟩ : Array Value) ++ Array.replicate (fn.ntmps - (⟨args'⟩ : Array Value).size) undef, defers := [] } := by
  refine ⟨?_, rfl⟩
  simp only [enterAct, Array.toList_append, Array.toList_replicate, List.size_toArray]
  rw [ha.length]
  exact ha.append (VRL.replicate _ (VR.of_closed ρ undef_closed))
theorem Fns.sound_rules {Spec : Fns} (hsp : Spec.le (Sound P w0)) (hfollow : P.follows .mixedOrders = true) (c : Cal) (H : AH) (R : Ret → AH → Prop) (hs : Rules P Spec (Sound P w0) c H R) : Sound P w0 c H R := by
  cases c with
  | fn f args =>
    rcases hs with hs | ⟨fn, c, h1, h2, h3, h4⟩
    · exact hsp _ _ _ hs
    · intro ρ w args' h ha
      refine callsIn_of_wp_marks h1 h2 trivial ?_
      refine wpIn_mono (wpC_sound (ro := none) hfollow c h3 ρ none rfl _ _ w ⟨_, H, ρ, Ren.le_refl _, h, h.enter ha, h4⟩) fun e a' w' he => ?_
      obtain ⟨e0, a, H, ρ', t1, t2, t3, t4, t5⟩ := he
      cases e0 with
      | normal => cases t4; exact leave_sound _ .returning .returning _ _ _ _ t1 t2 t3.tmps t3.defers rfl t5
      | ret => cases t4; exact leave_sound _ .returning .returning _ _ _ _ t1 t2 t3.tmps t3.defers rfl t5
      | panic c => obtain ⟨c', hc, rfl⟩ := t4; exact leave_sound _ (.panicking c) (.panicking c') _ _ _ _ t1 t2 t3.tmps t3.defers ⟨c', hc, rfl⟩ t5
      | outgrown => exact t4.elim
      | exit id => exact t5.elim
      | goto l => exact t5.elim
  | dfn f args =>
    rcases hs with hs | ⟨fn, c, h1, h2, h3, h4⟩
    · exact hsp _ _ _ hs
    · intro ρ w args' u h ha
      refine callsDIn_of_wp h1 h2 trivial ?_
      refine wpIn_mono (wpC_sound (ro := none) hfollow c h3 ρ none rfl _ _ w ⟨_, H, ρ, Ren.le_refl _, h, h.enter ha, h4⟩) fun e a' w' he => ?_
      obtain ⟨e0, a, H, ρ', t1, t2, t3, t4, t5⟩ := he
      have hdef : a.defers = [] → a'.defers = [] := fun e => by have := t3.defers; rw [e] at this; exact this
      cases e0 with
      | normal =>
        cases t4
        obtain ⟨q1, v, q2, q3⟩ := t5
        obtain ⟨v', s1, s2⟩ := aResults_sim t2 t3.tmps q2
        exact ⟨hdef q1, v', s1, .ret v, H, ρ', t1, t2, ⟨v', s2, rfl⟩, q3⟩
      | ret =>
        cases t4
        obtain ⟨q1, v, q2, q3⟩ := t5
        obtain ⟨v', s1, s2⟩ := aResults_sim t2 t3.tmps q2
        exact ⟨hdef q1, v', s1, .ret v, H, ρ', t1, t2, ⟨v', s2, rfl⟩, q3⟩
      | panic c => obtain ⟨c', hc, rfl⟩ := t4; exact ⟨hdef t5.1, .pan c, H, ρ', t1, t2, ⟨c', hc, rfl⟩, t5.2⟩
      | outgrown => exact t4.elim
      | exit id => exact t5.elim
      | goto l => exact t5.elim
  | round l args =>
    obtain ⟨r, h1, h2, h3, h4⟩ := hs
    intro ρ w args' lo rr0 r' h ha hl hb hg hlo hlr
    have hg' := loopOf_spec h1
    rw [hg] at hg'
    cases hg'
    refine roundIn_of_wpIn trivial ?_
    have hro : RoR ρ (some l) (some lo.blk) := ⟨lo, hl, hb, rfl⟩
    rw [← hlr.assign, ← hlr.body, ← hlr.params]
    have hact : ActR ρ { tmps := (r.params.zip ⟨args⟩).foldl (fun tmps (t, a) => tmps.setIfInBounds t a) r.tmps, defers := [] } { tmps := (r.params.zip ⟨args'⟩).foldl (fun tmps (t, a) => tmps.setIfInBounds t a) r'.tmps, defers := [] } := by
      refine ⟨?_, rfl⟩
      have htm := hlr.tmps
      rw [← Array.foldl_toList, ← Array.foldl_toList]
      simp only [Array.toList_zip]
      generalize r.params.toList = ps
      revert htm
      generalize r.tmps = t
      generalize r'.tmps = t'
      clear h4 h hlr hg h1 hlo
      induction ps generalizing args args' t t' with
      | nil => intro htm; simpa using htm
      | cons p ps ih =>
        intro htm
        cases args with
        | nil => cases ha; simpa using htm
        | cons x xs =>
          simp only [VRL] at ha
          obtain ⟨y, ys, h1, h2, rfl⟩ := ha
          simp only [List.zip_cons_cons, List.foldl_cons]
          refine ih xs ys h2 _ _ ?_
          simp only [Array.toList_setIfInBounds]
          exact htm.set p h1
    refine wpIn_mono (wpC_sound hfollow r.assign h2 ρ (some lo.blk) hro _ _ w ⟨_, H, ρ, Ren.le_refl _, h, hact, h4⟩) fun e a' w' he => ?_
    obtain ⟨e0, a, H, ρ', t1, t2, t3, t4, t5, r1, t6, t7, t8⟩ := he
    subst t5
    cases t4
    obtain ⟨r1', p1, p2⟩ := t2.loop (t1 _ _ hl) t6
    refine ⟨_, run_beginRound p1 (by rw [← p2.state]; exact t7), ?_⟩
    have hput := putObj_sim (y := .loop { r1 with state := .busy }) (y' := .loop { r1' with state := .busy }) t2 (t1 _ _ hl) (loopOf_spec t6)
          ⟨{ r1' with state := .busy }, ⟨rfl, p2.pending, p2.tmps, p2.params, p2.assign, p2.body, p2.defers⟩, rfl⟩
    refine wpIn_mono (wpC_sound hfollow r.body h3 ρ' (some lo.blk) (hro.mono t1) _ _ _ ⟨a, _, ρ', Ren.le_refl _, hput, t3, t8⟩) fun e a' w' he => ?_
    obtain ⟨e0, a, H, ρ'', u1, u2, u3, u4, u5⟩ := he
    have hend : ∀ (jump : Option Code) (r2 : Loop), loopOf H l = some r2 → R (.ret (.bool jump.isNone)) (H.set l (.obj (.loop { r2 with state := if jump.isNone then .ready else .done, pending := jump }))) →
        ∃ v w'', (Instr.endRound lo.blk jump).run P w' = .ok v w'' ∧ EndR P w0 ρ R (.returned v) w'' := by
      intro jump r2 e1 e2
      obtain ⟨r2', p1, p2⟩ := u2.loop ((Ren.le_trans t1 u1) _ _ hl) e1
      refine ⟨_, _, run_endRound jump p1, .ret (.bool jump.isNone), _, ρ'', Ren.le_trans t1 u1, ?_, ⟨_, rfl, rfl⟩, e2⟩
      exact putObj_sim u2 ((Ren.le_trans t1 u1) _ _ hl) (loopOf_spec e1) ⟨{ r2' with state := if jump.isNone then .ready else .done, pending := jump }, ⟨rfl, rfl, p2.tmps, p2.params, p2.assign, p2.body, p2.defers⟩, rfl⟩
    cases e0 with
    | normal => cases u4; obtain ⟨r2, e1, e2⟩ := u5; exact hend none r2 e1 e2
    | ret => cases u4; obtain ⟨r2, e1, e2⟩ := u5; exact hend (some .ret) r2 e1 e2
    | exit id => cases u4; obtain ⟨r2, e1, e2⟩ := u5; exact hend (some (.exit id)) r2 e1 e2
    | goto t => cases u4; obtain ⟨r2, e1, e2⟩ := u5; exact hend (some (.goto t)) r2 e1 e2
    | panic c => exact u5.elim
    | outgrown => exact u4.elim
/-- a condition on where one stands that a call sees too that is looked at on a part of the heap. -/
def Stays (P : Program) (Q : Base → Prop) : Prop := ∀ (w0 : Base) (ρ : Ren) (H Hc : AH) (w : World) (σ : Nat → Nat), HR P w0 ρ H w → Canon P σ H Hc → Q w0 → Q (Base.sub w (fun b => ρ (σ b)) Hc)
/-- that a block is among those that stay, and what it holds. -/
def Holds (g : Nat) (X : Option Obj → Prop) (w0 : Base) : Prop := w0.fz g ∧ X w0.world.heap[g]?
theorem Holds_stays (g : Nat) (X : Option Obj → Prop) : Stays P (Holds g X) := by
  intro w0 ρ H Hc w σ h hc hq
  refine ⟨⟨Nat.lt_of_lt_of_le (w0.lt _ hq.1) h.size, fun b0 l0 x0 v1 v2 v3 v4 => h.ge (σ b0) l0 _ v1 (hc.get _ _ v2) (by rw [mapB_rw]; exact v3) (v4 ▸ hq.1)⟩, ?_⟩
  show X w.heap[g]?
  rw [h.old g hq.1]; exact hq.2
/-- sound wherever one stands. -/
def AllSound (P : Program) (Q : Base → Prop) : Fns := fun c H R => ∀ w0, Q w0 → Sound P w0 c H R
variable {Q : Base → Prop}
theorem AllSound_mono : (AllSound P Q).Mono := fun c H R R' hR hs w0 hq => Sound_mono c H R R' hR (hs w0 hq)
theorem ren_sound {ρ0 ρ : Ren} {r r' : Ret} {H H0 H' : AH} {e : Ending} (hdom : ∀ b, H0.next ≤ b → ρ0 b = none) (hle : ρ0.le ρ) (h : HR P w0 ρ H w) (hv : EndV ρ r e) (hr : Renum P H0.next r H r' H') :
    ∃ ρ', ρ0.le ρ' ∧ HR P w0 ρ' H' w ∧ EndV ρ' r' e := by
  cases r with
  | pan c => cases r' <;> exact hr.elim
  | ret v =>
    cases r' with
    | pan c => exact hr.elim
    | ret v' =>
      obtain ⟨s, e1, e2, e3, e4, e5, e6⟩ := hr
      refine ⟨fun b => ρ (s b), fun b l q => ?_, h.turn e3 e4 e5 e6, ?_⟩
      · have : b < H0.next := by
          apply Nat.lt_of_not_le
          intro hb
          rw [hdom b hb] at q; cases q
        show ρ (s b) = some l
        rw [e2 b this]; exact hle _ _ q
      · obtain ⟨y, h1, rfl⟩ := hv
        rw [e1] at h1
        exact ⟨y, VR_map h1, rfl⟩
theorem turn_sound (hQ : Stays P Q) {c : Cal} {H : AH} {R : Ret → AH → Prop} (hs : Turn P (AllSound P Q) c H R) : AllSound P Q c H R := by
  cases c with
  | fn f args =>
    intro w0 hq ρ w args' h ha
    rcases hs with ⟨R0, h1, h2⟩ | ⟨σ, args2, Hc, R0, rfl, h2, h3, h4⟩
    · refine CallsIn.mono (h1 w0 hq ρ w args' h ha) fun e w' he => ?_
      obtain ⟨r, H1, ρ1, t1, t2, t3, t4⟩ := he
      obtain ⟨r', H', u1, u2⟩ := h2 r H1 t4
      obtain ⟨ρ', q1, q2, q3⟩ := ren_sound h.dom t1 t2 t3 u1
      exact ⟨r', H', ρ', q1, q2, q3, u2⟩
    · refine CallsIn.mono (h3 _ (hQ _ _ _ _ _ _ h h2 hq) _ w args' (h.canon h2) (VRL_map ha)) fun e w' he => ?_
      obtain ⟨r, H1, ρ1, t1, t2, t3, t4⟩ := he
      obtain ⟨r', H', u1, u2⟩ := h4 r H1 t4
      cases r with
      | pan c => cases r' <;> exact u1.elim
      | ret v =>
        cases r' with
        | pan c => exact u1.elim
        | ret v' =>
          obtain ⟨rfl, u3, u4⟩ := u1
          obtain ⟨ρ', q1, q2, q3⟩ := h.uncanon h2 t1 t2 u3 u4
          obtain ⟨y, s1, rfl⟩ := t3
          exact ⟨.ret _, H', ρ', q1, q2, ⟨y, VR_push q3 s1, rfl⟩, u2⟩
  | _ => exact hs.elim
/-- **what holds of the abstract semantics holds of the model.** -/
theorem W_sound {Spec : Fns} (hmono : Spec.Mono) (hQ : Stays P Q) (hsp : Spec.le (AllSound P Q)) (hfollow : P.follows .mixedOrders = true) : (W P Spec).le (AllSound P Q) :=
  W_least AllSound_mono (fun c H R hs w0 hq => Fns.sound_rules (w0 := w0) (fun c H R h => hsp c H R h w0 hq) hfollow c H R (Rules_mono (fun _c _H _R h => h w0 hq) Sound_mono hmono (fun _ _ h => h) hs)) fun _ _ _ hs => turn_sound hQ hs
end Go.Mt
/- The integers' operations, made cheap to compute: each is what the model's own is. -/
namespace Go.Mt

def md : IntKind → Nat
  | .i8 | .u8 => 256
  | .i16 | .u16 => 65536
  | .i32 | .u32 => 4294967296
  | .i64 | .u64 => 18446744073709551616
def half : IntKind → Nat
  | .i8 | .u8 => 128
  | .i16 | .u16 => 32768
  | .i32 | .u32 => 2147483648
  | .i64 | .u64 => 9223372036854775808
theorem md_eq (k : IntKind) : (2 : Int) ^ k.bits = (md k : Int) := by cases k <;> decide
theorem mdN_eq (k : IntKind) : 2 ^ k.bits = md k := by cases k <;> decide
theorem half_eq (k : IntKind) : (2 : Int) ^ (k.bits - 1) = (half k : Int) := by cases k <;> decide
theorem md_half (k : IntKind) : md k = 2 * half k := by cases k <;> decide
theorem half_pos (k : IntKind) : 0 < half k := by cases k <;> decide
noncomputable def fwU (d : Nat) (n : Int) : Int := Int.rec (motive := fun _ => Int) (fun m => .ofNat (Nat.mod m d)) (fun m => .ofNat (Nat.sub d (Nat.succ (Nat.mod m d)))) n
noncomputable def fwS (k : IntKind) (h : Nat) (n : Int) : Int :=
  Int.rec (motive := fun _ => Int) (fun m => Bool.rec (motive := fun _ => Int) (k.wrap n) n (Nat.blt m h)) (fun m => Bool.rec (motive := fun _ => Int) (k.wrap n) n (Nat.blt m h)) n
noncomputable def fwrap (k : IntKind) : Int → Int :=
  IntKind.rec (motive := fun _ => Int → Int) (fwS .i8 128) (fwS .i16 32768) (fwS .i32 2147483648) (fwS .i64 9223372036854775808) (fwU 256) (fwU 65536) (fwU 4294967296) (fwU 18446744073709551616) k
theorem fwrap_cases (k : IntKind) : fwrap k = if k.signed then fwS k (half k) else fwU (md k) := by cases k <;> rfl
theorem fwrap_eq (k : IntKind) (n : Int) : fwrap k n = k.wrap n := by
  rw [fwrap_cases]
  have hp := half_pos k
  have hm := md_half k
  cases hs : k.signed with
  | false =>
    have hw : k.wrap n = n % (md k : Int) := by simp only [IntKind.wrap, md_eq, hs, Bool.false_and]; rfl
    rw [hw]
    cases n with
    | ofNat m => show Int.ofNat (m % md k) = _; simp
    | negSucc m =>
      show Int.ofNat (md k - (m % md k + 1)) = _
      have h1 : m % md k < md k := Nat.mod_lt _ (by omega)
      rw [Int.negSucc_emod _ (by omega)]
      simp only [Int.ofNat_eq_natCast]
      omega
  | true =>
    have hw : k.wrap n = if n % (md k : Int) ≥ (half k : Int) then n % (md k : Int) - (md k : Int) else n % (md k : Int) := by
      simp only [IntKind.wrap, md_eq, half_eq, hs, Bool.true_and, decide_eq_true_eq]
    cases n with
    | ofNat m =>
      show Bool.rec (motive := fun _ => Int) (k.wrap (Int.ofNat m)) (Int.ofNat m) (Nat.blt m (half k)) = _
      cases hb : Nat.blt m (half k) with
      | false => rfl
      | true =>
        have : m < half k := by simpa [Nat.blt_eq] using hb
        rw [hw]
        simp only [Int.ofNat_eq_natCast]
        rw [Int.emod_eq_of_lt (by omega) (by omega), if_neg (by omega)]
    | negSucc m =>
      show Bool.rec (motive := fun _ => Int) (k.wrap (Int.negSucc m)) (Int.negSucc m) (Nat.blt m (half k)) = _
      cases hb : Nat.blt m (half k) with
      | false => rfl
      | true =>
        have hlt : m < half k := by simpa [Nat.blt_eq] using hb
        have h2 : (m : Int) % (md k : Int) = m := Int.emod_eq_of_lt (by omega) (by omega)
        have h3 : k.wrap (Int.negSucc m) = Int.negSucc m := by
          rw [hw, Int.negSucc_emod _ (by omega), h2, if_pos (by omega), Int.negSucc_eq]; omega
        show Int.negSucc m = k.wrap (Int.negSucc m)
        exact h3.symm

/-- two numbers that are not below 0. -/
noncomputable def fInt (op : BinOp) (k : IntKind) (m n : Nat) : Option Value :=
  match op with
  | .add => some (.int k (fwrap k (.ofNat (Nat.add m n))))
  | .sub => Bool.rec (motive := fun _ => Option Value) (some (.int k (fwrap k (.negSucc (Nat.pred (Nat.sub n m)))))) (some (.int k (fwrap k (.ofNat (Nat.sub m n))))) (Nat.ble n m)
  | .mul => some (.int k (fwrap k (.ofNat (Nat.mul m n))))
  | .quo => Bool.rec (motive := fun _ => Option Value) (some (.int k (fwrap k (.ofNat (Nat.div m n))))) none (Nat.beq n 0)
  | .rem => Bool.rec (motive := fun _ => Option Value) (some (.int k (.ofNat (Nat.mod m n)))) none (Nat.beq n 0)
  | .and => some (.int k (fwrap k (.ofNat (Nat.land (Nat.mod m (md k)) (Nat.mod n (md k))))))
  | .or => some (.int k (fwrap k (.ofNat (Nat.lor (Nat.mod m (md k)) (Nat.mod n (md k))))))
  | .xor => some (.int k (fwrap k (.ofNat (Nat.xor (Nat.mod m (md k)) (Nat.mod n (md k))))))
  | .andNot => some (.int k (fwrap k (.ofNat (Nat.land (Nat.mod m (md k)) (Nat.sub (Nat.sub (md k) 1) (Nat.mod n (md k)))))))
  | .eql => some (.bool (Nat.beq m n))
  | .neq => some (.bool (Bool.rec (motive := fun _ => Bool) true false (Nat.beq m n)))
  | .lss => some (.bool (Nat.blt m n))
  | .leq => some (.bool (Nat.ble m n))
  | .gtr => some (.bool (Nat.blt n m))
  | .geq => some (.bool (Nat.ble n m))
  | _ => none
noncomputable def fShift (op : BinOp) (k : IntKind) (m n : Nat) : Option Value :=
  match op with
  | .shl => some (.int k (fwrap k (.ofNat (Nat.mul m (Nat.pow 2 (Bool.rec (motive := fun _ => Nat) k.bits n (Nat.ble n k.bits)))))))
  | .shr => some (.int k (.ofNat (Nat.div m (Nat.pow 2 (Bool.rec (motive := fun _ => Nat) k.bits n (Nat.ble n k.bits))))))
  | _ => none
noncomputable def fOpt (b : Bool) (v : Value) : Option Value := Bool.rec (motive := fun _ => Option Value) none (some v) b
noncomputable def gAdd (k : IntKind) (m n : Nat) : Option Value := some (.int k (fwrap k (.ofNat (Nat.add m n))))
noncomputable def gSub (k : IntKind) (m n : Nat) : Option Value := fInt .sub k m n
noncomputable def gMul (k : IntKind) (m n : Nat) : Option Value := some (.int k (fwrap k (.ofNat (Nat.mul m n))))
noncomputable def gQuo (k : IntKind) (m n : Nat) : Option Value := fInt .quo k m n
noncomputable def gRem (k : IntKind) (m n : Nat) : Option Value := fInt .rem k m n
noncomputable def gAnd (k : IntKind) (m n : Nat) : Option Value := fInt .and k m n
noncomputable def gOr (k : IntKind) (m n : Nat) : Option Value := fInt .or k m n
noncomputable def gXor (k : IntKind) (m n : Nat) : Option Value := fInt .xor k m n
noncomputable def gAndNot (k : IntKind) (m n : Nat) : Option Value := fInt .andNot k m n
noncomputable def gShl (k : IntKind) (m n : Nat) : Option Value := fShift .shl k m n
noncomputable def gShr (k : IntKind) (m n : Nat) : Option Value := fShift .shr k m n
noncomputable def gEql (_ : IntKind) (m n : Nat) : Option Value := some (.bool (Nat.beq m n))
noncomputable def gNeq (k : IntKind) (m n : Nat) : Option Value := fInt .neq k m n
noncomputable def gLss (_ : IntKind) (m n : Nat) : Option Value := some (.bool (Nat.blt m n))
noncomputable def gLeq (_ : IntKind) (m n : Nat) : Option Value := some (.bool (Nat.ble m n))
noncomputable def gGtr (_ : IntKind) (m n : Nat) : Option Value := some (.bool (Nat.blt n m))
noncomputable def gGeq (_ : IntKind) (m n : Nat) : Option Value := some (.bool (Nat.ble n m))
/-- the operation, and may the kinds be unlike? -/
noncomputable def gOp (op : BinOp) : IntKind → Nat → Nat → Option Value :=
  BinOp.rec (motive := fun _ => IntKind → Nat → Nat → Option Value) gAdd gSub gMul gQuo gRem gAnd gOr gXor gShl gShr gAndNot gEql gNeq gLss gLeq gGtr gGeq op
noncomputable def gFree (op : BinOp) : Bool :=
  BinOp.rec (motive := fun _ => Bool) false false false false false false false false true true false false false false false false false op
noncomputable def kIdx (k : IntKind) : Nat := IntKind.rec (motive := fun _ => Nat) 0 1 2 3 4 5 6 7 k
theorem kIdx_inj {k k' : IntKind} (h : Nat.beq (kIdx k) (kIdx k') = true) : k = k' := by
  cases k <;> cases k' <;> first | rfl | exact absurd h (by decide)
theorem gOp_int {op : BinOp} {k : IntKind} {m n : Nat} (h : gFree op = false) : gOp op k m n = fInt op k m n := by
  cases op <;> first | rfl | cases h
theorem gOp_shift {op : BinOp} {k : IntKind} {m n : Nat} (h : gFree op = true) : gOp op k m n = fShift op k m n := by
  cases op <;> first | rfl | cases h
noncomputable def orBin (r : Option Value) (d : Option (Except Value Value)) : Option (Except Value Value) :=
  Option.rec (motive := fun _ => Option (Except Value Value)) d (fun v => some (.ok v)) r
noncomputable def gBin (op : BinOp) (k k' : IntKind) (m n : Nat) (d : Option (Except Value Value)) : Option (Except Value Value) :=
  Bool.rec (motive := fun _ => Option (Except Value Value) → Option (Except Value Value)) (fun d => Bool.rec (motive := fun _ => Option (Except Value Value)) d (orBin (gOp op k m n) d) (Nat.beq (kIdx k) (kIdx k'))) (orBin (gOp op k m n)) (gFree op) d
noncomputable def fBin (P : Program) (op : BinOp) (t : TypeId) (x y : Operand) (a b : Value) : Option (Except Value Value) :=
  match a, b with
  | .int k (.ofNat m), .int k' (.ofNat n) => gBin op k k' m n (aBin P op t x y a b)
  | _, _ => aBin P op t x y a b
theorem aBin_int {P : Program} {op : BinOp} {t : TypeId} {x y : Operand} {k k' : IntKind} {m n : Int} {v : Value} (hc : closed v = true)
    (h : pureRun P (Go.binOp op t (.int k m) (.int k' n)) = some (.ok v)) : aBin P op t x y (.int k m) (.int k' n) = some (.ok v) := by
  have hg : pureRun P (do eqGuard op t x y (.int k m) (.int k' n); Go.binOp op t (.int k m) (.int k' n)) = some (.ok v) := by
    rw [← h]
    unfold eqGuard
    split <;> rfl
  simp only [aBin, closed, Bool.and_true, if_true, pureC, hg, hc]
theorem toNat_ofInt (k : IntKind) (m : Nat) : (BitVec.ofInt k.bits (Int.ofNat m)).toNat = m % md k := by
  rw [BitVec.toNat_ofInt, ← mdN_eq]; simp only [Int.ofNat_eq_natCast]; omega
theorem fInt_ok {P : Program} {op : BinOp} {t : TypeId} {k : IntKind} {m n : Nat} {v : Value} (h : fInt op k m n = some v) :
    closed v = true ∧ pureRun P (Go.binOp op t (.int k (.ofNat m)) (.int k (.ofNat n))) = some (.ok v) := by
  have hb : ∀ (b : Bool) (x y : Option Value), (Bool.rec (motive := fun _ => Option Value) x y b) = some v → (b = true ∧ y = some v) ∨ (b = false ∧ x = some v) := by
    intro b x y h; cases b
    · exact .inr ⟨rfl, h⟩
    · exact .inl ⟨rfl, h⟩
  have hbit : ∀ (r : BitVec k.bits) (q : Nat), r.toNat = q → (pure (.int k (k.wrap r.toNat)) : Sem Value) = pure (.int k (fwrap k (.ofNat q))) := by
    intro r q hr; rw [fwrap_eq, hr]; rfl
  cases op <;> simp only [fInt] at h
  case add => cases h; exact ⟨rfl, by simp only [Go.binOp, ne_eq, not_true, if_false, Op.intArith, fwrap_eq]; rfl⟩
  case mul => cases h; exact ⟨rfl, by simp only [Go.binOp, ne_eq, not_true, if_false, Op.intArith, fwrap_eq]; rfl⟩
  case sub =>
    rcases hb _ _ _ h with ⟨h1, h2⟩ | ⟨h1, h2⟩ <;> cases h2 <;> refine ⟨rfl, ?_⟩ <;> simp only [Go.binOp, ne_eq, not_true, if_false, Op.intArith, fwrap_eq]
    · have h3 : n ≤ m := Nat.le_of_ble_eq_true h1
      have : (Int.ofNat m - Int.ofNat n) = Int.ofNat (m - n) := by simp only [Int.ofNat_eq_natCast]; omega
      rw [this]; rfl
    · have h3 : ¬ n ≤ m := fun h => by rw [Nat.ble_eq_true_of_le h] at h1; cases h1
      have : (Int.ofNat m - Int.ofNat n) = Int.negSucc (Nat.pred (Nat.sub n m)) := by
        rw [Int.negSucc_eq]; simp only [Int.ofNat_eq_natCast, Nat.pred_eq_sub_one, Nat.sub_eq]; omega
      rw [this]; rfl
  case quo =>
    rcases hb _ _ _ h with ⟨h1, h2⟩ | ⟨h1, h2⟩ <;> cases h2
    refine ⟨rfl, ?_⟩
    have h3 : ¬ Int.ofNat n = 0 := fun e => by
      have : n = 0 := by simpa using e
      subst this; cases h1
    simp only [Go.binOp, ne_eq, not_true, if_false, Op.intDiv, if_neg h3, fwrap_eq]; rfl
  case rem =>
    rcases hb _ _ _ h with ⟨h1, h2⟩ | ⟨h1, h2⟩ <;> cases h2
    refine ⟨rfl, ?_⟩
    have h3 : ¬ Int.ofNat n = 0 := fun e => by
      have : n = 0 := by simpa using e
      subst this; cases h1
    simp only [Go.binOp, ne_eq, not_true, if_false, Op.intDiv, if_neg h3]; rfl
  case and =>
    cases h; refine ⟨rfl, ?_⟩
    simp only [Go.binOp, ne_eq, not_true, if_false, Op.intBits]
    rw [hbit _ _ (by rw [BitVec.toNat_and, toNat_ofInt, toNat_ofInt])]; rfl
  case or =>
    cases h; refine ⟨rfl, ?_⟩
    simp only [Go.binOp, ne_eq, not_true, if_false, Op.intBits]
    rw [hbit _ _ (by rw [BitVec.toNat_or, toNat_ofInt, toNat_ofInt])]; rfl
  case xor =>
    cases h; refine ⟨rfl, ?_⟩
    simp only [Go.binOp, ne_eq, not_true, if_false, Op.intBits]
    rw [hbit _ _ (by rw [BitVec.toNat_xor, toNat_ofInt, toNat_ofInt])]; rfl
  case andNot =>
    cases h; refine ⟨rfl, ?_⟩
    simp only [Go.binOp, ne_eq, not_true, if_false, Op.intBits]
    rw [hbit _ _ (by rw [BitVec.toNat_and, BitVec.toNat_not, toNat_ofInt, toNat_ofInt, mdN_eq])]; rfl
  case eql =>
    cases h; refine ⟨rfl, ?_⟩
    simp only [Go.binOp, ne_eq, not_true, if_false, Op.intCmp]
    have : (Int.ofNat m == Int.ofNat n) = Nat.beq m n := by rw [Bool.eq_iff_iff]; simp; exact Int.ofNat_inj
    rw [this]; rfl
  case neq =>
    cases h; refine ⟨rfl, ?_⟩
    simp only [Go.binOp, ne_eq, not_true, if_false, Op.intCmp]
    have : (Int.ofNat m != Int.ofNat n) = !(Nat.beq m n) := by simp only [bne]; congr 1; rw [Bool.eq_iff_iff]; simp; exact Int.ofNat_inj
    rw [this]; cases Nat.beq m n <;> rfl
  case lss =>
    cases h; refine ⟨rfl, ?_⟩
    simp only [Go.binOp, ne_eq, not_true, if_false, Op.intCmp]
    have : decide (Int.ofNat m < Int.ofNat n) = Nat.blt m n := by rw [Bool.eq_iff_iff]; simp [Nat.blt_eq]
    rw [this]; rfl
  case leq =>
    cases h; refine ⟨rfl, ?_⟩
    simp only [Go.binOp, ne_eq, not_true, if_false, Op.intCmp]
    have : decide (Int.ofNat m ≤ Int.ofNat n) = Nat.ble m n := by rw [Bool.eq_iff_iff]; simp
    rw [this]; rfl
  case gtr =>
    cases h; refine ⟨rfl, ?_⟩
    simp only [Go.binOp, ne_eq, not_true, if_false, Op.intCmp]
    have : decide (Int.ofNat m > Int.ofNat n) = Nat.blt n m := by rw [Bool.eq_iff_iff]; simp [Nat.blt_eq]
    rw [this]; rfl
  case geq =>
    cases h; refine ⟨rfl, ?_⟩
    simp only [Go.binOp, ne_eq, not_true, if_false, Op.intCmp]
    have : decide (Int.ofNat m ≥ Int.ofNat n) = Nat.ble n m := by rw [Bool.eq_iff_iff]; simp
    rw [this]; rfl
  all_goals cases h
theorem fmin (n b : Nat) : (Bool.rec (motive := fun _ => Nat) b n (Nat.ble n b)) = min n b := by
  cases h : Nat.ble n b with
  | true => have : n ≤ b := Nat.le_of_ble_eq_true h; show n = _; omega
  | false => have : ¬ n ≤ b := fun e => by rw [Nat.ble_eq_true_of_le e] at h; cases h
             show b = _; omega
theorem fShift_ok {P : Program} {op : BinOp} {t : TypeId} {k k' : IntKind} {m n : Nat} {v : Value} (h : fShift op k m n = some v) :
    closed v = true ∧ pureRun P (Go.binOp op t (.int k (.ofNat m)) (.int k' (.ofNat n))) = some (.ok v) := by
  have hn : ¬ (Int.ofNat n < 0) := by simp
  cases op <;> simp only [fShift, fmin] at h
  case shl =>
    cases h; refine ⟨rfl, ?_⟩
    simp only [Go.binOp, Op.shift, fwrap_eq, Int.ofNat_eq_natCast, Int.toNat_natCast]
    have : ((m : Int) * 2 ^ min n k.bits) = ((Nat.mul m (Nat.pow 2 (min n k.bits)) : Nat) : Int) := by simp
    rw [this]; rfl
  case shr =>
    cases h; refine ⟨rfl, ?_⟩
    simp only [Go.binOp, Op.shift, Int.ofNat_eq_natCast, Int.toNat_natCast]
    have : ((m : Int).fdiv (2 ^ min n k.bits)) = ((Nat.div m (Nat.pow 2 (min n k.bits)) : Nat) : Int) := by
      have e : ((2 : Int) ^ min n k.bits) = ((2 ^ min n k.bits : Nat) : Int) := by simp
      rw [e, Int.fdiv_eq_ediv_of_nonneg _ (Int.natCast_nonneg _)]; rfl
    rw [this]; rfl
  all_goals cases h
theorem fBin_eq (P : Program) (op : BinOp) (t : TypeId) (x y : Operand) (a b : Value) : fBin P op t x y a b = aBin P op t x y a b := by
  unfold fBin
  split
  · rename_i k m k' n
    unfold gBin
    cases hf : gFree op with
    | true =>
      show orBin (gOp op k m n) _ = _
      rw [gOp_shift hf]
      cases h : fShift op k m n with
      | none => rfl
      | some v => have := fShift_ok (P := P) (t := t) (k' := k') h; exact (aBin_int this.1 this.2).symm
    | false =>
      show Bool.rec (motive := fun _ => Option (Except Value Value)) _ (orBin (gOp op k m n) _) (Nat.beq (kIdx k) (kIdx k')) = _
      cases hk : Nat.beq (kIdx k) (kIdx k') with
      | false => rfl
      | true =>
        cases kIdx_inj hk
        show orBin (gOp op k m n) _ = _
        rw [gOp_int hf]
        cases h : fInt op k m n with
        | none => rfl
        | some v => have := fInt_ok (P := P) (t := t) h; exact (aBin_int this.1 this.2).symm
  · rfl
theorem pureRun_bind {P : Program} {α β : Type} {s : Sem α} {a : α} (k : α → Sem β) (h : pureRun P s = some (.ok a)) : pureRun P (s >>= k) = pureRun P (k a) := by
  induction s with
  | pure b => simp [pureRun] at h; subst h; rfl
  | program q ih => exact ih P h
  | mark _ q ih => exact ih h
  | halt x => cases x <;> simp [pureRun] at h
  | _ => simp [pureRun] at h
theorem pureRun_underlying {P : Program} {t : TypeId} {d : TypeDesc} (h : P.underlying t = some d) : pureRun P (underlying t) = some (.ok d) := by
  unfold underlying
  rw [pureRun_bind (a := P) _ rfl]
  simp only [h]; rfl
noncomputable def fConvert (P : Program) (H : AH) (src dst : TypeId) (x : Value) : Option ERes :=
  match P.underlying src, P.underlying dst, x with
  | some (.int _), some (.int k), .int _ n => some (.val (.int k (fwrap k n)) H)
  | _, _, _ => aConvert P H src dst x
theorem fConvert_eq (P : Program) (H : AH) (src dst : TypeId) (x : Value) : fConvert P H src dst x = aConvert P H src dst x := by
  unfold fConvert
  split
  · rename_i k0 k k1 n h1 h2
    have : pureC P (convert src dst (.int k1 n)) = some (.ok (.int k (fwrap k n))) := by
      have : pureRun P (convert src dst (.int k1 n)) = some (.ok (.int k (fwrap k n))) := by
        rw [fwrap_eq]
        unfold convert
        rw [pureRun_bind _ (pureRun_underlying h1), pureRun_bind _ (pureRun_underlying h2)]
        rfl
      simp only [pureC, this, closed, if_true]
    simp only [aConvert, h1, h2, this, closed, if_true]
  · rfl
end Go.Mt
/- A computation of code on abstract heaps, that the kernel runs; what it comes to holds of W. -/
namespace Go.Mt
variable {α β : Type}
noncomputable def forceN (n : Nat) (k : Nat → β) : β := Nat.rec (motive := fun _ => β) (k Nat.zero) (fun m _ => k (Nat.succ m)) n
noncomputable def forceI (n : Int) (k : Int → β) : β := Int.rec (motive := fun _ => β) (fun m => forceN m fun m => k (.ofNat m)) (fun m => forceN m fun m => k (.negSucc m)) n
noncomputable def forceL (l : List α) (k : List α → β) : β := List.rec (motive := fun _ => (List α → β) → β) (fun k => k []) (fun x _ ih k => ih fun l' => k (x :: l')) l k
noncomputable def forceA (a : Addr) (k : Addr → β) : β := match a with
  | ⟨b, o, s⟩ => forceN b fun b => forceN o fun o => k ⟨b, o, s⟩
noncomputable def forceV (v : Value) (k : Value → β) : β :=
  match v with
  | .int i n => forceI n fun n => k (.int i n)
  | .bool b => Bool.rec (motive := fun _ => β) (k (.bool false)) (k (.bool true)) b
  | .agg ⟨l⟩ => forceL l fun l => k (.agg ⟨l⟩)
  | .tuple ⟨l⟩ => forceL l fun l => k (.tuple ⟨l⟩)
  | .pointer (some a) => forceA a fun a => k (.pointer (some a))
  | .slice (some a) n c => forceA a fun a => forceN n fun n => forceN c fun c => k (.slice (some a) n c)
  | v => k v
noncomputable def forceB (x : ABlk) (k : ABlk → β) : β :=
  match x with
  | .arr l e r => forceL l fun l => k (.arr l e r)
  | x => k x
noncomputable def forceLog (l : List (Nat × ABlk)) (k : List (Nat × ABlk) → β) : β :=
  List.rec (motive := fun _ => (List (Nat × ABlk) → β) → β) (fun k => k []) (fun x _ ih k => ih fun l' => match x with
    | (n, b) => forceN n fun n => forceB b fun b => k ((n, b) :: l')) l k
theorem forceN_eq (n : Nat) (k : Nat → β) : forceN n k = k n := by cases n <;> rfl
theorem forceI_eq (n : Int) (k : Int → β) : forceI n k = k n := by
  cases n with
  | ofNat m => exact forceN_eq m fun m => k (.ofNat m)
  | negSucc m => exact forceN_eq m fun m => k (.negSucc m)
theorem forceL_eq (l : List α) (k : List α → β) : forceL l k = k l := by
  induction l generalizing k with
  | nil => rfl
  | cons x l ih => exact ih _
theorem forceA_eq (a : Addr) (k : Addr → β) : forceA a k = k a := by cases a; simp only [forceA, forceN_eq]
theorem forceV_eq (v : Value) (k : Value → β) : forceV v k = k v := by
  unfold forceV
  split <;> try simp only [forceI_eq, forceL_eq, forceA_eq, forceN_eq]
  rename_i b
  cases b <;> rfl
theorem forceB_eq (x : ABlk) (k : ABlk → β) : forceB x k = k x := by
  unfold forceB
  split <;> first | simp only [forceL_eq] | rfl
theorem forceLog_eq (l : List (Nat × ABlk)) (k : List (Nat × ABlk) → β) : forceLog l k = k l := by
  induction l generalizing k with
  | nil => rfl
  | cons x l ih =>
    obtain ⟨n, b⟩ := x
    show forceLog l (fun l' => forceN n fun n => forceB b fun b => k ((n, b) :: l')) = _
    rw [ih, forceN_eq, forceB_eq]
structure Env where
  t : T Value
  n : Nat
  ds : List Deferred
noncomputable def Env.val (e : Env) (t : Nat) : Value := Option.rec (motive := fun _ => Value) undef (fun v => v) (e.t.get t)
noncomputable def Env.eval (e : Env) : Operand → Value
  | .tmp t => e.val t
  | .const v => v
  | .global g => .pointer (some ⟨g, 0, none⟩)
  | .func f => .func (.func f) #[] #[]
noncomputable def Env.putK (e : Env) (dst : Option Tmp) (v : Value) (k : Env → β) : β :=
  match dst with
  | none => k e
  | some d => match e with
    | ⟨t, n, ds⟩ => Bool.rec (motive := fun _ => β) (k ⟨t, n, ds⟩) (forceV v fun v => (T.set t d v).force fun t => k ⟨t, n, ds⟩) (Nat.blt d n)
noncomputable def Env.arr (e : Env) : Array Value := ⟨(List.range e.n).map e.val⟩
noncomputable def Env.act (e : Env) : Act := { tmps := e.arr, defers := e.ds }
def Env.Wf (e : Env) : Prop := ∀ t, e.n ≤ t → e.t.get t = none
noncomputable def Env.put (e : Env) (dst : Option Tmp) (v : Value) : Env :=
  match dst with
  | none => e
  | some d => if d < e.n then ⟨e.t.set d v, e.n, e.ds⟩ else e
theorem Env.putK_eq (e : Env) (dst : Option Tmp) (v : Value) (k : Env → β) : e.putK dst v k = k (e.put dst v) := by
  cases dst with
  | none => rfl
  | some d =>
    obtain ⟨t, n, ds⟩ := e
    show Bool.rec (motive := fun _ => β) (k ⟨t, n, ds⟩) (forceV v fun v => (T.set t d v).force fun t => k ⟨t, n, ds⟩) (Nat.blt d n) = k (if d < n then _ else _)
    cases h : Nat.blt d n with
    | true => rw [if_pos (by simpa [Nat.blt_eq] using h)]; show (forceV v fun v => (T.set t d v).force fun t => k ⟨t, n, ds⟩) = _; rw [forceV_eq, T.force_eq]
    | false => rw [if_neg (by intro h2; rw [show Nat.blt d n = true by simpa [Nat.blt_eq] using h2] at h; cases h)]
theorem Env.put_lt {e : Env} {d : Nat} (h : d < e.n) (v : Value) : e.put (some d) v = ⟨e.t.set d v, e.n, e.ds⟩ := if_pos h
theorem Env.put_ge {e : Env} {d : Nat} (h : ¬ d < e.n) (v : Value) : e.put (some d) v = e := if_neg h
theorem Env.put_wf {e : Env} (h : e.Wf) (dst : Option Tmp) (v : Value) : (e.put dst v).Wf := by
  cases dst with
  | none => exact h
  | some d =>
    by_cases hd : d < e.n
    · rw [put_lt hd]
      intro t ht
      have ht : e.n ≤ t := ht
      have hne : ¬ t = d := fun e => by subst e; exact absurd hd (Nat.not_lt.2 ht)
      show (e.t.set d v).get t = none
      rw [T.get_set, if_neg hne]
      exact h t ht
    · rw [put_ge hd]; exact h
theorem Env.act_put {e : Env} (dst : Option Tmp) (v : Value) : (e.put dst v).act = e.act.put dst v := by
  cases dst with
  | none => rfl
  | some d =>
    by_cases hd : d < e.n
    · rw [put_lt hd]
      simp only [Act.put, Env.act, Act.mk.injEq, and_true]
      apply Array.toList_inj.1
      apply List.ext_getElem?
      intro i
      simp only [Env.arr, List.getElem?_map, Array.toList_setIfInBounds, List.getElem?_set, List.length_map, List.length_range]
      by_cases h1 : d = i
      · subst h1
        simp [hd, Env.val, T.get_set]
      · rw [if_neg h1]
        by_cases h2 : i < e.n
        · simp [h2, Env.val, T.get_set, Ne.symm h1]
        · simp [h2]
    · rw [put_ge hd]
      simp only [Act.put, Env.act, Act.mk.injEq, and_true]
      apply Array.toList_inj.1
      simp only [Env.arr, Array.toList_setIfInBounds]
      rw [List.set_eq_of_length_le]
      simp only [List.length_map, List.length_range]
      exact Nat.not_lt.1 hd
theorem Env.act_eval {e : Env} (h : e.Wf) (x : Operand) : e.act.eval x = e.eval x := by
  cases x with
  | tmp t =>
    show e.arr.getD t undef = e.val t
    by_cases ht : t < e.n
    · simp [Env.arr, ht]
    · have : e.val t = undef := by unfold Env.val; rw [h t (Nat.not_lt.1 ht)]
      rw [this]; simp [Env.arr, ht]
  | const v => rfl
  | global g => rfl
  | func f => rfl
noncomputable def normE (k : AH → β) (e : EH) : β :=
  match e with
  | ⟨n, b, l⟩ => forceN n fun n => forceLog l fun l => EH.flushK (fun t => k (Quot.mk EH.Eqv ⟨n, t, []⟩)) l b
theorem norm_eq (e : EH) (k : AH → β) : normE k e = k (Quot.mk _ e) := by
  obtain ⟨n, b, l⟩ := e
  show (forceN n fun n => forceLog l fun l => EH.flushK (fun t => k (Quot.mk EH.Eqv ⟨n, t, []⟩)) l b) = _
  rw [forceN_eq, forceLog_eq, EH.flushK_eq]
  congr 1
  exact Quot.sound ⟨rfl, fun b => EH.flush_get ..⟩
noncomputable def normH (H : AH) (k : AH → β) : β := Quot.lift (normE k) (fun a b h => by rw [norm_eq, norm_eq, Quot.sound h]) H
theorem normH_eq (H : AH) (k : AH → β) : normH H k = k H := by
  induction H using Quot.ind
  exact norm_eq _ _
end Go.Mt
