/- A way to reckon with the model (part 1 of 4): an abstract heap, what the program comes to on it, and the proof that what is reckoned so holds of every run of the model. -/
import Derived.Laws.Append
import Derived.Laws.BytesString
import Derived.Laws.Cells
import Derived.Laws.Entries
import Derived.Laws.Rows
import Derived.Laws.Strings
import Derived.Laws.World
import Derived.OrdersIn
import Derived.RangeFuncLeaves
/- A tree of numbered places. Written so that the kernel computes it in small steps. -/
namespace Go.Mt

inductive T (α : Type) where
  | nil
  | node (v : Option α) (l r : T α)
variable {α β : Type}
noncomputable def T.gN (v : Option α) (gl gr : Nat → Option α) (n : Nat) : Option α :=
  Nat.rec (motive := fun _ => Option α) v (fun m _ => Bool.rec (motive := fun _ => Nat → Option α) gr gl (Nat.beq (Nat.mod m 2) 0) (Nat.div m 2)) n
/-- what stands at a place. -/
noncomputable def T.get (t : T α) : Nat → Option α :=
  T.rec (motive := fun _ => Nat → Option α) (fun _ => none) (fun v _ _ gl gr => T.gN v gl gr) t
theorem T.get_nil (n : Nat) : (T.nil : T α).get n = none := rfl
theorem T.get_zero (v : Option α) (l r : T α) : (T.node v l r).get 0 = v := rfl
theorem T.get_succ (v : Option α) (l r : T α) (m : Nat) : (T.node v l r).get (m + 1) = if m % 2 = 0 then l.get (m / 2) else r.get (m / 2) := by
  show Bool.rec (motive := fun _ => Nat → Option α) r.get l.get (Nat.beq (m % 2) 0) (m / 2) = _
  cases h : Nat.beq (m % 2) 0
  · rw [if_neg (Nat.ne_of_beq_eq_false h)]
  · rw [if_pos (Nat.eq_of_beq_eq_true h)]
noncomputable def T.pL (v : Option α) (r t : T α) : T α := T.rec (motive := fun _ => T α) (.node v .nil r) (fun a b c _ _ => .node v (.node a b c) r) t
noncomputable def T.pR (v : Option α) (l t : T α) : T α := T.rec (motive := fun _ => T α) (.node v l .nil) (fun a b c _ _ => .node v l (.node a b c)) t
noncomputable def T.goL (ih : T α → Nat → T α) (v : Option α) (l r : T α) (m : Nat) : T α := T.pL v r (ih l m)
noncomputable def T.goR (ih : T α → Nat → T α) (v : Option α) (l r : T α) (m : Nat) : T α := T.pR v l (ih r m)
noncomputable def T.sN (x : α) (ih : T α → Nat → T α) (n : Nat) (v : Option α) (l r : T α) : T α :=
  Nat.rec (motive := fun _ => T α) (.node (some x) l r) (fun m _ => Bool.rec (motive := fun _ => (T α → Nat → T α) → Option α → T α → T α → Nat → T α) T.goR T.goL (Nat.beq (Nat.mod m 2) 0) ih v l r (Nat.div m 2)) n
noncomputable def T.sT (x : α) (ih : T α → Nat → T α) (t : T α) (n : Nat) : T α :=
  T.rec (motive := fun _ => T α) (T.sN x ih n none .nil .nil) (fun v l r _ _ => T.sN x ih n v l r) t
noncomputable def T.setF (x : α) (k0 : Nat) : T α → Nat → T α :=
  Nat.rec (motive := fun _ => T α → Nat → T α) (fun t _ => t) (fun _ ih => T.sT x ih) k0
noncomputable def T.set (t : T α) (n : Nat) (x : α) : T α := T.setF x (Nat.succ n) t n
/-- looked at, then on. -/
noncomputable def T.force (t : T α) (k : T α → β) : β := T.rec (motive := fun _ => (T α → β) → β) (fun k => k .nil) (fun v l r _ _ k => k (.node v l r)) t k
theorem T.force_eq (t : T α) (k : T α → β) : t.force k = k t := by cases t <;> rfl
theorem T.pL_eq (v : Option α) (r t : T α) : T.pL v r t = .node v t r := by cases t <;> rfl
theorem T.pR_eq (v : Option α) (l t : T α) : T.pR v l t = .node v l t := by cases t <;> rfl
theorem T.sN_succ (x : α) (ih : T α → Nat → T α) (m : Nat) (v : Option α) (l r : T α) : T.sN x ih (m + 1) v l r = if m % 2 = 0 then .node v (ih l (m / 2)) r else .node v l (ih r (m / 2)) := by
  show Bool.rec (motive := fun _ => (T α → Nat → T α) → Option α → T α → T α → Nat → T α) T.goR T.goL (Nat.beq (m % 2) 0) ih v l r (m / 2) = _
  cases h : Nat.beq (m % 2) 0
  · rw [if_neg (Nat.ne_of_beq_eq_false h)]; exact T.pR_eq ..
  · rw [if_pos (Nat.eq_of_beq_eq_true h)]; exact T.pL_eq ..
theorem T.get_setF (x : α) : ∀ (d : Nat) (t : T α) (n i : Nat), n < d → (T.setF x d t n).get i = if i = n then some x else t.get i
  | 0, t, n, i, h => by omega
  | d + 1, t, n, i, h => by
    have main : ∀ v (l r : T α), (∀ j, t.get (j + 1) = if j % 2 = 0 then l.get (j / 2) else r.get (j / 2)) → t.get 0 = v → (T.sN x (T.setF x d) n v l r).get i = if i = n then some x else t.get i := by
      intro v l r hs h0
      cases n with
      | zero =>
        show (T.node (some x) l r).get i = _
        cases i with
        | zero => rfl
        | succ j => rw [if_neg (show ¬ (j + 1 = 0) by omega), hs, T.get_succ]
      | succ m =>
        have ih := fun (t : T α) (j : Nat) => T.get_setF x d t (m / 2) j (by omega)
        rw [T.sN_succ]
        cases i with
        | zero => rw [if_neg (show ¬ (0 = m + 1) by omega), h0]; split <;> rfl
        | succ j =>
          rw [hs j]
          by_cases hm : m % 2 = 0
          · rw [if_pos hm, T.get_succ, ih]
            by_cases hj : j % 2 = 0
            · rw [if_pos hj, if_pos hj]
              by_cases he : j = m
              · subst he; simp
              · rw [if_neg (show ¬ (j / 2 = m / 2) by omega), if_neg (show ¬ (j + 1 = m + 1) by omega)]
            · rw [if_neg hj, if_neg hj, if_neg (show ¬ (j + 1 = m + 1) by omega)]
          · rw [if_neg hm, T.get_succ, ih]
            by_cases hj : j % 2 = 0
            · rw [if_pos hj, if_pos hj, if_neg (show ¬ (j + 1 = m + 1) by omega)]
            · rw [if_neg hj, if_neg hj]
              by_cases he : j = m
              · subst he; simp
              · rw [if_neg (show ¬ (j / 2 = m / 2) by omega), if_neg (show ¬ (j + 1 = m + 1) by omega)]
    cases t with
    | nil => exact main none .nil .nil (fun j => by simp [T.get_nil]) rfl
    | node v l r => exact main v l r (fun j => T.get_succ v l r j) rfl
theorem T.get_set (t : T α) (n i : Nat) (x : α) : (t.set n x).get i = if i = n then some x else t.get i := T.get_setF x (n + 1) t n i (by omega)
end Go.Mt
/- The abstract heap and how it stands to the model's memory: values with renamed addresses; a slice's capacity is 0 (unknown) or c+1 (exactly c). -/
namespace Go.Mt

/-- Where an abstract block lies: the model's block, the first cell there, the block's cells, the cells of an element of a slice of unknown capacity. -/
structure Loc where
  blk : Nat
  base : Nat
  lim : Nat
  unit : Nat

abbrev Ren := Nat → Option Loc

def Ren.le (ρ ρ' : Ren) : Prop := ∀ b l, ρ b = some l → ρ' b = some l
theorem Ren.le_refl (ρ : Ren) : ρ.le ρ := fun _ _ h => h
theorem Ren.le_trans {a b c : Ren} (h : a.le b) (h' : b.le c) : a.le c := fun x l e => h' x l (h x l e)

def AR (ρ : Ren) (a b : Addr) : Prop := ∃ l, ρ a.block = some l ∧ a.spot = none ∧ b = ⟨l.blk, l.base + a.off, none⟩

/-- a slice that is not nil: its capacity known exactly (k = c + 1), or (k = 0) at least the length, and the cells are there; where it has no length (or no capacity), where in the block it begins is not told. -/
def SlR (ρ : Ren) (a b : Addr) (n k c : Nat) : Prop :=
  ∃ l, ρ a.block = some l ∧ a.spot = none ∧ b.block = l.blk ∧ b.spot = none ∧
    (k = 0 → n ≤ c ∧ b.off + c * l.unit ≤ l.lim ∧ (n ≠ 0 → b.off = l.base + a.off)) ∧ (k ≠ 0 → k = c + 1 ∧ n ≤ c ∧ (c ≠ 0 → b.off = l.base + a.off))

def FnR (ρ : Ren) : Fn → Fn → Prop
  | .yield l, .yield l' => ∃ x, ρ l = some x ∧ x.base = 0 ∧ l' = x.blk
  | .yield _, _ => False
  | f, g => f = g

mutual
def VR (ρ : Ren) : Value → Value → Prop
  | .bool a, y => y = .bool a
  | .int k a, y => y = .int k a
  | .float k a, y => y = .float k a
  | .complex k a b, y => y = .complex k a b
  | .string a, y => y = .string a
  | .pointer none, y => y = .pointer none
  | .pointer (some a), y => ∃ b, AR ρ a b ∧ y = .pointer (some b)
  | .slice none n _, y => n = 0 ∧ y = .slice none 0 0
  | .slice (some a) n k, y => ∃ b c, SlR ρ a b n k c ∧ y = .slice (some b) n c
  | .map none, y => y = .map none
  | .map (some r), y => ∃ l, ρ r = some l ∧ l.base = 0 ∧ y = .map (some l.blk)
  | .chan c, y => c = none ∧ y = .chan none
  | .func f ⟨x⟩ ⟨z⟩, y => ∃ g x' z', FnR ρ f g ∧ VRL ρ x x' ∧ VRL ρ z z' ∧ y = .func g ⟨x'⟩ ⟨z'⟩
  | .nilFunc, y => y = .nilFunc
  | .iface t v, y => ∃ v', VR ρ v v' ∧ y = .iface t v'
  | .nilIface, y => y = .nilIface
  | .agg ⟨xs⟩, y => ∃ ys, VRL ρ xs ys ∧ y = .agg ⟨ys⟩
  | .tuple ⟨xs⟩, y => ∃ ys, VRL ρ xs ys ∧ y = .tuple ⟨ys⟩
def VRL (ρ : Ren) : List Value → List Value → Prop
  | [], ys => ys = []
  | x :: xs, ys => ∃ y ys', VR ρ x y ∧ VRL ρ xs ys' ∧ ys = y :: ys'
end

theorem AR.mono {ρ ρ' : Ren} (h : ρ.le ρ') {a b : Addr} (r : AR ρ a b) : AR ρ' a b := by
  obtain ⟨l, h1, h2, h3⟩ := r; exact ⟨l, h _ _ h1, h2, h3⟩
theorem SlR.mono {ρ ρ' : Ren} (h : ρ.le ρ') {a b : Addr} {n k c : Nat} (r : SlR ρ a b n k c) : SlR ρ' a b n k c := by
  obtain ⟨l, h1, h2⟩ := r; exact ⟨l, h _ _ h1, h2⟩
theorem FnR.mono {ρ ρ' : Ren} (h : ρ.le ρ') {f g : Fn} (r : FnR ρ f g) : FnR ρ' f g := by
  cases f <;> cases g <;> simp only [FnR] at * <;> try exact r
  obtain ⟨x, h1, h2, h3⟩ := r; exact ⟨x, h _ _ h1, h2, h3⟩

mutual
theorem VR.mono {ρ ρ' : Ren} (h : ρ.le ρ') : ∀ {x y : Value}, VR ρ x y → VR ρ' x y
  | .bool _, _, r => by simpa only [VR] using r
  | .int _ _, _, r => by simpa only [VR] using r
  | .float _ _, _, r => by simpa only [VR] using r
  | .complex _ _ _, _, r => by simpa only [VR] using r
  | .string _, _, r => by simpa only [VR] using r
  | .pointer none, _, r => by simpa only [VR] using r
  | .pointer (some a), _, r => by simp only [VR] at *; obtain ⟨b, h1, h2⟩ := r; exact ⟨b, h1.mono h, h2⟩
  | .slice none _ _, _, r => by simpa only [VR] using r
  | .slice (some a) _ _, _, r => by simp only [VR] at *; obtain ⟨b, c, h1, h2⟩ := r; exact ⟨b, c, h1.mono h, h2⟩
  | .map none, _, r => by simpa only [VR] using r
  | .map (some _), _, r => by simp only [VR] at *; obtain ⟨l, h1, h2⟩ := r; exact ⟨l, h _ _ h1, h2⟩
  | .chan _, _, r => by simpa only [VR] using r
  | .func f ⟨x⟩ ⟨z⟩, _, r => by
    simp only [VR] at *; obtain ⟨g, x', z', h1, h2, h3, h4⟩ := r; exact ⟨g, x', z', h1.mono h, VRL.mono h h2, VRL.mono h h3, h4⟩
  | .nilFunc, _, r => by simpa only [VR] using r
  | .iface t v, _, r => by simp only [VR] at *; obtain ⟨v', h1, h2⟩ := r; exact ⟨v', VR.mono h h1, h2⟩
  | .nilIface, _, r => by simpa only [VR] using r
  | .agg ⟨xs⟩, _, r => by simp only [VR] at *; obtain ⟨ys, h1, h2⟩ := r; exact ⟨ys, VRL.mono h h1, h2⟩
  | .tuple ⟨xs⟩, _, r => by simp only [VR] at *; obtain ⟨ys, h1, h2⟩ := r; exact ⟨ys, VRL.mono h h1, h2⟩
theorem VRL.mono {ρ ρ' : Ren} (h : ρ.le ρ') : ∀ {xs ys : List Value}, VRL ρ xs ys → VRL ρ' xs ys
  | [], _, r => by simpa only [VRL] using r
  | x :: xs, _, r => by simp only [VRL] at *; obtain ⟨y, ys', h1, h2, h3⟩ := r; exact ⟨y, ys', VR.mono h h1, VRL.mono h h2, h3⟩
end

/- no address stands in a value (a constant of the code). -/
mutual
def closed : Value → Bool
  | .pointer (some _) => false
  | .slice none n c => n == 0 && c == 0
  | .slice (some _) _ _ => false
  | .map (some _) => false
  | .chan (some _) => false
  | .func f ⟨x⟩ ⟨z⟩ => (match f with | .yield _ => false | _ => true) && closedL x && closedL z
  | .iface _ v => closed v
  | .agg ⟨xs⟩ => closedL xs
  | .tuple ⟨xs⟩ => closedL xs
  | _ => true
def closedL : List Value → Bool
  | [] => true
  | x :: xs => closed x && closedL xs
end
mutual
theorem VR.of_closed (ρ : Ren) : ∀ {x : Value}, closed x = true → VR ρ x x
  | .bool _, _ => by simp [VR]
  | .int _ _, _ => by simp [VR]
  | .float _ _, _ => by simp [VR]
  | .complex _ _ _, _ => by simp [VR]
  | .string _, _ => by simp [VR]
  | .pointer none, _ => by simp [VR]
  | .pointer (some _), h => by simp [closed] at h
  | .slice none _ _, h => by simp [closed] at h; simp [VR, h]
  | .slice (some _) _ _, h => by simp [closed] at h
  | .map none, _ => by simp [VR]
  | .map (some _), h => by simp [closed] at h
  | .chan none, _ => by simp [VR]
  | .chan (some _), h => by simp [closed] at h
  | .func f ⟨x⟩ ⟨z⟩, h => by
    simp only [closed, Bool.and_eq_true] at h
    simp only [VR]
    refine ⟨f, x, z, ?_, VRL.of_closed ρ h.1.2, VRL.of_closed ρ h.2, rfl⟩
    cases f <;> simp_all [FnR]
  | .nilFunc, _ => by simp [VR]
  | .iface t v, h => by simp only [closed] at h; simp only [VR]; exact ⟨v, VR.of_closed ρ h, rfl⟩
  | .nilIface, _ => by simp [VR]
  | .agg ⟨xs⟩, h => by simp only [closed] at h; simp only [VR]; exact ⟨xs, VRL.of_closed ρ h, rfl⟩
  | .tuple ⟨xs⟩, h => by simp only [closed] at h; simp only [VR]; exact ⟨xs, VRL.of_closed ρ h, rfl⟩
theorem VRL.of_closed (ρ : Ren) : ∀ {xs : List Value}, closedL xs = true → VRL ρ xs xs
  | [], _ => by simp [VRL]
  | x :: xs, h => by
    simp only [closedL, Bool.and_eq_true] at h
    simp only [VRL]
    exact ⟨x, xs, VR.of_closed ρ h.1, VRL.of_closed ρ h.2, rfl⟩
end

/-! lists -/
theorem VRL.nil_iff {ρ : Ren} {ys : List Value} : VRL ρ [] ys ↔ ys = [] := by simp [VRL]
theorem VRL.cons {ρ : Ren} {x y : Value} {xs ys : List Value} (h : VR ρ x y) (t : VRL ρ xs ys) : VRL ρ (x :: xs) (y :: ys) := by
  simp only [VRL]; exact ⟨y, ys, h, t, rfl⟩
theorem VRL.length {ρ : Ren} : ∀ {xs ys : List Value}, VRL ρ xs ys → xs.length = ys.length
  | [], _, h => by simp [VRL] at h; simp [h]
  | x :: xs, _, h => by
    simp only [VRL] at h; obtain ⟨y, ys', _, h2, rfl⟩ := h; simp [VRL.length h2]
theorem VRL.iff {ρ : Ren} : ∀ {xs ys : List Value}, VRL ρ xs ys ↔ xs.length = ys.length ∧ ∀ (i : Nat) (x y : Value), xs[i]? = some x → ys[i]? = some y → VR ρ x y
  | [], ys => by
    simp only [VRL]
    constructor
    · rintro rfl; simp
    · rintro ⟨h, _⟩; simpa using h.symm
  | x :: xs, [] => by simp [VRL]
  | x :: xs, y :: ys => by
    simp only [VRL, List.cons.injEq]
    constructor
    · rintro ⟨y', ys', h1, h2, rfl, rfl⟩
      have := VRL.iff.1 h2
      refine ⟨by simp [this.1], fun i a b ha hb => ?_⟩
      cases i with
      | zero => simp at ha hb; subst ha; subst hb; exact h1
      | succ i => simp at ha hb; exact this.2 i a b ha hb
    · rintro ⟨h1, h2⟩
      exact ⟨y, ys, h2 0 x y rfl rfl, VRL.iff.2 ⟨by simpa using h1, fun i a b ha hb => h2 (i + 1) a b (by simpa using ha) (by simpa using hb)⟩, rfl, rfl⟩
theorem VRL.get {ρ : Ren} {xs ys : List Value} (h : VRL ρ xs ys) {i : Nat} {x : Value} (hx : xs[i]? = some x) : ∃ y, ys[i]? = some y ∧ VR ρ x y := by
  have hl := h.length
  have : i < ys.length := by have := (List.getElem?_eq_some_iff.1 hx).1; omega
  exact ⟨ys[i], List.getElem?_eq_getElem this, (VRL.iff.1 h).2 i x _ hx (List.getElem?_eq_getElem this)⟩
theorem VRL.getD {ρ : Ren} {xs ys : List Value} (h : VRL ρ xs ys) (i : Nat) {d d' : Value} (hd : VR ρ d d') : VR ρ (xs.getD i d) (ys.getD i d') := by
  simp only [List.getD_eq_getElem?_getD]
  cases hx : xs[i]? with
  | some x => obtain ⟨y, hy, r⟩ := h.get hx; simpa [hy] using r
  | none =>
    have : ys[i]? = none := by rw [List.getElem?_eq_none_iff] at *; rw [← h.length]; exact hx
    simpa [this] using hd
theorem VRL.append {ρ : Ren} {xs ys xs' ys' : List Value} (h : VRL ρ xs ys) (h' : VRL ρ xs' ys') : VRL ρ (xs ++ xs') (ys ++ ys') := by
  induction xs generalizing ys with
  | nil => simp only [VRL] at h; subst h; simpa using h'
  | cons x xs ih => simp only [VRL] at h; obtain ⟨y, zs, h1, h2, rfl⟩ := h; simp only [List.cons_append]; exact VRL.cons h1 (ih h2)
theorem VRL.take {ρ : Ren} {xs ys : List Value} (n : Nat) (h : VRL ρ xs ys) : VRL ρ (xs.take n) (ys.take n) := by
  rw [VRL.iff] at *
  refine ⟨by simp [h.1], fun i x y hx hy => ?_⟩
  rw [List.getElem?_take] at hx hy
  split at hx <;> simp_all
  exact h.2 i x y hx hy
theorem VRL.drop {ρ : Ren} {xs ys : List Value} (n : Nat) (h : VRL ρ xs ys) : VRL ρ (xs.drop n) (ys.drop n) := by
  rw [VRL.iff] at *
  refine ⟨by simp [h.1], fun i x y hx hy => ?_⟩
  rw [List.getElem?_drop] at hx hy
  exact h.2 _ x y hx hy
theorem VRL.set {ρ : Ren} {xs ys : List Value} (n : Nat) {v v' : Value} (hv : VR ρ v v') (h : VRL ρ xs ys) : VRL ρ (xs.set n v) (ys.set n v') := by
  rw [VRL.iff] at *
  refine ⟨by simp [h.1], fun i x y hx hy => ?_⟩
  rw [List.getElem?_set] at hx hy
  split at hx
  · split at hx <;> simp_all
  · simp_all; exact h.2 i x y hx hy
theorem VRL.replicate {ρ : Ren} (n : Nat) {v v' : Value} (hv : VR ρ v v') : VRL ρ (List.replicate n v) (List.replicate n v') := by
  rw [VRL.iff]
  refine ⟨by simp, fun i x y hx hy => ?_⟩
  rw [List.getElem?_replicate] at hx hy
  split at hx <;> simp_all
end Go.Mt
/- The abstract heap, and how it stands to a world. -/
namespace Go.Mt

/-- an abstract block: a row of cells (of elements of a type; may it not be written?); another object; one that may not be looked at any more. -/
inductive ABlk where
  | arr (c : List Value) (elem : TypeId) (ro : Bool)
  | obj (o : Obj)
  | dead

/-- a heap as it is kept: a tree, and what has turned since. -/
structure EH where
  next : Nat
  base : T ABlk
  log : List (Nat × ABlk)
noncomputable def EH.find (b : Nat) (d : Option ABlk) (l : List (Nat × ABlk)) : Option ABlk :=
  List.rec (motive := fun _ => Option ABlk) d (fun x _ ih => Bool.rec (motive := fun _ => Option ABlk) ih (some x.2) (Nat.beq x.1 b)) l
noncomputable def EH.get (e : EH) (b : Nat) : Option ABlk := EH.find b (e.base.get b) e.log
def EH.Eqv (e e' : EH) : Prop := e.next = e'.next ∧ ∀ b, e.get b = e'.get b
theorem EH.find_cons (b : Nat) (d : Option ABlk) (x : Nat × ABlk) (l : List (Nat × ABlk)) : EH.find b d (x :: l) = if b = x.1 then some x.2 else EH.find b d l := by
  show Bool.rec (motive := fun _ => Option ABlk) (EH.find b d l) (some x.2) (Nat.beq x.1 b) = _
  cases h : Nat.beq x.1 b
  · rw [if_neg (fun e => Nat.ne_of_beq_eq_false h e.symm)]
  · rw [if_pos (Nat.eq_of_beq_eq_true h).symm]
theorem EH.get_cons (n : Nat) (t : T ABlk) (x : Nat × ABlk) (l : List (Nat × ABlk)) (b : Nat) : EH.get ⟨n, t, x :: l⟩ b = if b = x.1 then some x.2 else EH.get ⟨n, t, l⟩ b := EH.find_cons ..
/-- a heap: what stands at each place, however it is kept. -/
def AH : Type := Quot EH.Eqv
noncomputable def AH.next (H : AH) : Nat := Quot.lift EH.next (fun _ _ h => h.1) H
noncomputable def AH.get (H : AH) : Nat → Option ABlk := Quot.lift EH.get (fun _ _ h => funext h.2) H
noncomputable def AH.set (H : AH) (b : Nat) (x : ABlk) : AH :=
  Quot.lift (fun e => Quot.mk EH.Eqv ⟨e.next, e.base, (b, x) :: e.log⟩) (fun _ _ h => Quot.sound ⟨h.1, fun i => by rw [EH.get_cons, EH.get_cons, show EH.get ⟨_, _, _⟩ i = EH.get ⟨_, _, _⟩ i from h.2 i]⟩) H
noncomputable def AH.new (H : AH) (x : ABlk) : AH :=
  Quot.lift (fun e => Quot.mk EH.Eqv ⟨e.next + 1, e.base, (e.next, x) :: e.log⟩)
    (fun a b h => Quot.sound ⟨congrArg (· + 1) h.1, fun i => by
      show EH.find i (a.base.get i) ((a.next, x) :: a.log) = EH.find i (b.base.get i) ((b.next, x) :: b.log)
      rw [EH.find_cons, EH.find_cons, show a.next = b.next from h.1, show EH.find i (a.base.get i) a.log = EH.find i (b.base.get i) b.log from h.2 i]⟩) H
@[simp] theorem AH.set_next (H : AH) (b : Nat) (x : ABlk) : (H.set b x).next = H.next := by induction H using Quot.ind; rfl
@[simp] theorem AH.new_next (H : AH) (x : ABlk) : (H.new x).next = H.next + 1 := by induction H using Quot.ind; rfl
theorem AH.get_set (H : AH) (b i : Nat) (x : ABlk) : (H.set b x).get i = if i = b then some x else H.get i := by induction H using Quot.ind; exact EH.get_cons ..
theorem AH.get_new (H : AH) (i : Nat) (x : ABlk) : (H.new x).get i = if i = H.next then some x else H.get i := by induction H using Quot.ind; exact EH.get_cons ..
theorem AH.ext {H H' : AH} (hn : H.next = H'.next) (hg : ∀ i, H.get i = H'.get i) : H = H' := by
  induction H using Quot.ind; induction H' using Quot.ind; exact Quot.sound ⟨hn, hg⟩
/-- the same heap, its turns laid into the tree; then on. -/
noncomputable def EH.flushK {β : Type} (k : T ABlk → β) (l : List (Nat × ABlk)) : T ABlk → β :=
  List.rec (motive := fun _ => (T ABlk → β) → T ABlk → β) (fun k t => k t) (fun x _ ih k t => ih (fun t' => (T.set t' x.1 x.2).force k) t) l k
theorem EH.flushK_eq {β : Type} (k : T ABlk → β) (l : List (Nat × ABlk)) (t : T ABlk) : EH.flushK k l t = k (l.foldr (fun x t => t.set x.1 x.2) t) := by
  induction l generalizing k with
  | nil => rfl
  | cons x l ih =>
    show EH.flushK (fun t' => (T.set t' x.1 x.2).force k) l t = _
    rw [ih, T.force_eq]; rfl
theorem EH.flush_get (n : Nat) (t : T ABlk) (l : List (Nat × ABlk)) (b : Nat) : EH.get ⟨n, l.foldr (fun x t => t.set x.1 x.2) t, []⟩ b = EH.get ⟨n, t, l⟩ b := by
  induction l with
  | nil => rfl
  | cons x l ih => rw [EH.get_cons, ← ih]; exact T.get_set ..

def Ren.upd (ρ : Ren) (b : Nat) (l : Loc) : Ren := fun i => if i = b then some l else ρ i
theorem Ren.le_upd {ρ : Ren} {b : Nat} {l : Loc} (h : ρ b = none) : ρ.le (ρ.upd b l) := by
  intro x m e; unfold Ren.upd; split
  · subst_vars; rw [h] at e; cases e
  · exact e
@[simp] theorem Ren.upd_same (ρ : Ren) (b : Nat) (l : Loc) : (ρ.upd b l) b = some l := by simp [Ren.upd]
theorem Ren.upd_ne {ρ : Ren} {b i : Nat} {l : Loc} (h : i ≠ b) : (ρ.upd b l) i = ρ i := by simp [Ren.upd, h]

structure MER (ρ : Ren) (e e' : MapEntry) : Prop where
  key : VR ρ e.key e'.key
  val : VR ρ e.val e'.val
  born : e.born = e'.born
def MERL (ρ : Ren) : List MapEntry → List MapEntry → Prop
  | [], es => es = []
  | e :: es, l => ∃ e' es', MER ρ e e' ∧ MERL ρ es es' ∧ l = e' :: es'
theorem MER.mono {ρ ρ' : Ren} (h : ρ.le ρ') {e e' : MapEntry} (r : MER ρ e e') : MER ρ' e e' := ⟨r.key.mono h, r.val.mono h, r.born⟩
theorem MERL.mono {ρ ρ' : Ren} (h : ρ.le ρ') : ∀ {es es' : List MapEntry}, MERL ρ es es' → MERL ρ' es es'
  | [], _, r => r
  | _ :: _, _, ⟨e', es', h1, h2, h3⟩ => ⟨e', es', h1.mono h, MERL.mono h h2, h3⟩

structure LR (ρ : Ren) (l l' : Loop) : Prop where
  state : l.state = l'.state
  pending : l.pending = l'.pending
  tmps : VRL ρ l.tmps.toList l'.tmps.toList
  params : l.params = l'.params
  assign : l.assign = l'.assign
  body : l.body = l'.body
  defers : ∃ x, ρ l.defers = some x ∧ x.base = 0 ∧ l'.defers = x.blk
theorem LR.mono {ρ ρ' : Ren} (h : ρ.le ρ') {l l' : Loop} (r : LR ρ l l') : LR ρ' l l' :=
  ⟨r.state, r.pending, r.tmps.mono h, r.params, r.assign, r.body, let ⟨x, a, b⟩ := r.defers; ⟨x, h _ _ a, b⟩⟩

/-- objects that are no rows of cells. -/
def OR (ρ : Ren) : Obj → Obj → Prop
  | .map es k, y => ∃ es', MERL ρ es.toList es'.toList ∧ y = .map es' k
  | .stringIter s p, y => y = .stringIter s p
  | .mapIter none a b c, y => y = .mapIter none a b c
  | .mapIter (some m) a b c, y => ∃ l, ρ m = some l ∧ l.base = 0 ∧ y = .mapIter (some l.blk) a b c
  | .loop l, y => ∃ l', LR ρ l l' ∧ y = .loop l'
  | .deferred none, y => y = .deferred none
  | .deferred (some []), y => y = .deferred (some [])
  | _, _ => False
theorem OR.mono {ρ ρ' : Ren} (h : ρ.le ρ') : ∀ {x y : Obj}, OR ρ x y → OR ρ' x y
  | .map _ _, _, ⟨es', a, b⟩ => ⟨es', a.mono h, b⟩
  | .stringIter _ _, _, r => r
  | .mapIter none _ _ _, _, r => r
  | .mapIter (some _) _ _ _, _, ⟨l, a, b⟩ => ⟨l, h _ _ a, b⟩
  | .loop _, _, ⟨l', a, b⟩ => ⟨l', a.mono h, b⟩
  | .deferred none, _, r => r
  | .deferred (some []), _, r => r
  | .deferred (some (_ :: _)), _, r => r.elim
  | .cells .., _, r | .pending .., _, r | .view .., _, r | .number .., _, r | .chan .., _, r | .coro .., _, r | .finalizers .., _, r => by simp [OR] at r


def BR (P : Program) (ρ : Ren) (w : World) (l : Loc) : ABlk → Prop
  | .arr c elem ro => ∃ (cs : Array Value) (e : TypeId) (fz : Nat × Nat) (i : TypeInfo), w.heap[l.blk]? = some (.cells cs e fz) ∧ l.lim = cs.size ∧ P.info? elem = some i ∧ l.unit = i.size ∧
      VRL ρ c ((cs.toList.drop l.base).take c.length) ∧ (ro = false → cs.size ≤ fz.1 ∨ fz.1 = fz.2)
  | .obj o => ∃ o', w.heap[l.blk]? = some o' ∧ OR ρ o o' ∧ l.base = 0
  | .dead => True

def ABlk.live : ABlk → Bool
  | .dead => false
  | _ => true
def ABlk.rw : ABlk → Bool
  | .dead => false
  | .arr _ _ ro => !ro
  | .obj _ => true

/-- where one stands: the world at the beginning; which of its blocks stay as they are; which may be seen. -/
structure Base where
  world : World
  fz : Nat → Prop
  vis : Nat → Prop
  lt : ∀ b, fz b → b < world.heap.size
structure HR (P : Program) (w0 : Base) (ρ : Ren) (H : AH) (w : World) : Prop where
  dom : ∀ b, H.next ≤ b → ρ b = none
  lv : ∀ b l x, ρ b = some l → H.get b = some x → BR P ρ w l x
  inj : ∀ b b' l l' x x', ρ b = some l → ρ b' = some l' → H.get b = some x → H.get b' = some x' → x.rw = true → x'.live = true → l.blk = l'.blk → b = b'
  ge : ∀ b l x, ρ b = some l → H.get b = some x → x.rw = true → ¬ w0.fz l.blk
  old : ∀ b, w0.fz b → w.heap[b]? = w0.world.heap[b]?
  size : w0.world.heap.size ≤ w.heap.size
  vis : ∀ b l x, ρ b = some l → H.get b = some x → x.live = true → l.blk < w0.world.heap.size → w0.vis l.blk
  tot : ∀ b x, H.get b = some x → x.live = true → ∃ l, ρ b = some l
  glob : ∀ g, g < P.globals.size → ∃ m u, ρ g = some ⟨g, 0, m, u⟩
  env : w.os = w0.world.os ∧ w.output = w0.world.output ∧ w.tape = w0.world.tape

theorem BR.mono {P : Program} {ρ ρ' : Ren} (h : ρ.le ρ') {w : World} {l : Loc} : ∀ {x : ABlk}, BR P ρ w l x → BR P ρ' w l x
  | .arr _ _ _, ⟨cs, e, fz, i, a, b, c, d, f, g⟩ => ⟨cs, e, fz, i, a, b, c, d, f.mono h, g⟩
  | .obj _, ⟨o', a, b, c⟩ => ⟨o', a, b.mono h, c⟩
  | .dead, _ => trivial
theorem BR.world {P : Program} {ρ : Ren} {w w' : World} {l : Loc} (h : w'.heap[l.blk]? = w.heap[l.blk]?) : ∀ {x : ABlk}, BR P ρ w l x → BR P ρ w' l x
  | .arr _ _ _, ⟨cs, e, fz, i, a, b⟩ => ⟨cs, e, fz, i, h.trans a, b⟩
  | .obj _, ⟨o', a, b⟩ => ⟨o', h.trans a, b⟩
  | .dead, _ => trivial
theorem BR.blk_lt {P : Program} {ρ : Ren} {w : World} {l : Loc} {x : ABlk} (h : BR P ρ w l x) (hl : x.live = true) : l.blk < w.heap.size := by
  cases x with
  | arr => obtain ⟨cs, e, fz, i, a, _⟩ := h; exact (Array.getElem?_eq_some_iff.1 a).1
  | obj => obtain ⟨o', a, _⟩ := h; exact (Array.getElem?_eq_some_iff.1 a).1
  | dead => simp [ABlk.live] at hl
theorem ABlk.live_of_rw {x : ABlk} (h : x.rw = true) : x.live = true := by cases x <;> simp_all [ABlk.rw, ABlk.live]

variable {P : Program} {w0 : Base} {w w' : World} {ρ : Ren} {H : AH}

/-- nothing of the heap has turned. -/
theorem HR.same (h : HR P w0 ρ H w) (hh : w'.heap = w.heap) (ho : w'.os = w.os) (hp : w'.output = w.output) (ht : w'.tape = w.tape) : HR P w0 ρ H w' where
  dom := h.dom
  lv b l x hb hx := (h.lv b l x hb hx).world (by rw [hh])
  inj := h.inj
  ge := h.ge
  old b hb := by rw [hh]; exact h.old b hb
  size := by rw [hh]; exact h.size
  vis := h.vis
  tot := h.tot
  glob := h.glob
  env := ⟨ho.trans h.env.1, hp.trans h.env.2.1, ht.trans h.env.2.2⟩

/-- one block has turned. -/
theorem HR.update (h : HR P w0 ρ H w) {b : Nat} {l : Loc} {x y : ABlk} (hb : ρ b = some l) (hx : H.get b = some x) (hrw : x.rw = true)
    (hs : w'.heap.size = w.heap.size) (hother : ∀ i, i ≠ l.blk → w'.heap[i]? = w.heap[i]?) (ho : w'.os = w.os) (hp : w'.output = w.output) (ht : w'.tape = w.tape)
    (hy : BR P ρ w' l y) : HR P w0 ρ (H.set b y) w' where
  dom := by rw [AH.set_next]; exact h.dom
  lv b' l' x' hb' hx' := by
    rw [AH.get_set] at hx'
    split at hx'
    · subst_vars; rw [hb] at hb'; cases hb'; cases hx'; exact hy
    · rename_i hne
      by_cases hlv : x'.live = true
      · refine (h.lv b' l' x' hb' hx').world (hother _ fun he => hne ?_)
        exact (h.inj b b' l l' x x' hb hb' hx hx' hrw hlv he.symm).symm
      · cases x' <;> simp [ABlk.live] at hlv; trivial
  inj b1 b2 l1 l2 x1 x2 h1 h2 g1 g2 r1 r2 e := by
    rw [AH.get_set] at g1 g2
    by_cases e1 : b1 = b
    · by_cases e2 : b2 = b
      · rw [e1, e2]
      · rw [if_neg e2] at g2
        subst e1; rw [hb] at h1; cases h1
        exact h.inj b1 b2 l l2 x x2 hb h2 hx g2 hrw r2 e
    · rw [if_neg e1] at g1
      by_cases e2 : b2 = b
      · subst e2; rw [hb] at h2; cases h2
        exact h.inj b1 b2 l1 l x1 x h1 hb g1 hx r1 (ABlk.live_of_rw hrw) e
      · rw [if_neg e2] at g2; exact h.inj b1 b2 l1 l2 x1 x2 h1 h2 g1 g2 r1 r2 e
  ge b1 l1 x1 h1 g1 r1 := by
    rw [AH.get_set] at g1
    split at g1
    · subst_vars; rw [hb] at h1; cases h1; exact h.ge b1 l x hb hx hrw
    · exact h.ge b1 l1 x1 h1 g1 r1
  old b1 hb1 := by
    have := h.ge b l x hb hx hrw
    rw [hother b1 (fun e => this (e ▸ hb1))]; exact h.old b1 hb1
  size := by rw [hs]; exact h.size
  vis b1 l1 x1 h1 g1 r1 := by
    rw [AH.get_set] at g1
    split at g1
    · subst_vars; rw [hb] at h1; cases h1; exact h.vis b1 l x hb hx (ABlk.live_of_rw hrw)
    · exact h.vis b1 l1 x1 h1 g1 r1
  tot b1 x1 g1 r1 := by
    rw [AH.get_set] at g1
    split at g1
    · subst_vars; exact ⟨l, hb⟩
    · exact h.tot b1 x1 g1 r1
  glob := h.glob
  env := ⟨ho.trans h.env.1, hp.trans h.env.2.1, ht.trans h.env.2.2⟩

/-- a new block. -/
theorem HR.new (h : HR P w0 ρ H w) {o : Obj} {x : ABlk} {l : Loc} (hh : w'.heap = w.heap.push o) (ho : w'.os = w.os) (hp : w'.output = w.output) (ht : w'.tape = w.tape)
    (hl : l.blk = w.heap.size) (hx : BR P (ρ.upd H.next l) w' l x) : ρ.le (ρ.upd H.next l) ∧ HR P w0 (ρ.upd H.next l) (H.new x) w' := by
  have hn : ρ H.next = none := h.dom _ (Nat.le_refl _)
  have hle : ρ.le (ρ.upd H.next l) := Ren.le_upd hn
  refine ⟨hle, ?_⟩
  have hold : ∀ i, i < w.heap.size → w'.heap[i]? = w.heap[i]? := by
    intro i hi; rw [hh, Array.getElem?_push]; simp [Nat.ne_of_lt hi]
  refine ⟨?_, ?_, ?_, ?_, ?_, ?_, ?_, ?_, ?_, ?_⟩
  · intro b hb; rw [Ren.upd_ne (by simp at hb; omega)]; exact h.dom b (by simp at hb; omega)
  · intro b l' x' hb hx'
    rw [AH.get_new] at hx'
    by_cases e : b = H.next
    · subst e; simp at hb hx'; subst hb; subst hx'; exact hx
    · rw [if_neg e] at hx'; rw [Ren.upd_ne e] at hb
      have := h.lv b l' x' hb hx'
      by_cases hlv : x'.live = true
      · exact (this.mono hle).world (hold _ (this.blk_lt hlv))
      · cases x' <;> simp [ABlk.live] at hlv; trivial
  · intro b1 b2 l1 l2 x1 x2 h1 h2 g1 g2 r1 r2 e
    rw [AH.get_new] at g1 g2
    by_cases e1 : b1 = H.next
    · by_cases e2 : b2 = H.next
      · rw [e1, e2]
      · exfalso
        subst e1; simp at h1; subst h1
        rw [if_neg e2] at g2; rw [Ren.upd_ne e2] at h2
        have := (h.lv b2 l2 x2 h2 g2).blk_lt r2
        omega
    · rw [if_neg e1] at g1; rw [Ren.upd_ne e1] at h1
      by_cases e2 : b2 = H.next
      · exfalso
        subst e2; simp at h2; subst h2
        have := (h.lv b1 l1 x1 h1 g1).blk_lt (ABlk.live_of_rw r1)
        omega
      · rw [if_neg e2] at g2; rw [Ren.upd_ne e2] at h2
        exact h.inj b1 b2 l1 l2 x1 x2 h1 h2 g1 g2 r1 r2 e
  · intro b1 l1 x1 h1 g1 r1
    rw [AH.get_new] at g1
    by_cases e1 : b1 = H.next
    · subst e1; simp at h1; subst h1; rw [hl]; exact fun hf => absurd (w0.lt _ hf) (Nat.not_lt.2 h.size)
    · rw [if_neg e1] at g1; rw [Ren.upd_ne e1] at h1; exact h.ge b1 l1 x1 h1 g1 r1
  · intro b hb; rw [hold b (Nat.lt_of_lt_of_le (w0.lt _ hb) h.size)]; exact h.old b hb
  · rw [hh]; simp; exact Nat.le_succ_of_le h.size
  · intro b1 l1 x1 h1 g1 r1
    rw [AH.get_new] at g1
    by_cases e1 : b1 = H.next
    · subst e1; simp at h1; subst h1; rw [hl]; exact fun hf => absurd hf (Nat.not_lt.2 h.size)
    · rw [if_neg e1] at g1; rw [Ren.upd_ne e1] at h1; exact h.vis b1 l1 x1 h1 g1 r1
  · intro b1 x1 g1 r1
    rw [AH.get_new] at g1
    by_cases e1 : b1 = H.next
    · subst e1; exact ⟨l, Ren.upd_same _ _ _⟩
    · rw [if_neg e1] at g1
      obtain ⟨l1, q⟩ := h.tot b1 x1 g1 r1
      exact ⟨l1, hle _ _ q⟩
  · intro g hg; obtain ⟨m, u, e⟩ := h.glob g hg; exact ⟨m, u, hle _ _ e⟩
  · exact ⟨ho.trans h.env.1, hp.trans h.env.2.1, ht.trans h.env.2.2⟩

/-- a row is given up (it may not be looked at any more). -/
theorem HR.kill (h : HR P w0 ρ H w) (b : Nat) : HR P w0 ρ (H.set b .dead) w where
  dom := by rw [AH.set_next]; exact h.dom
  lv b' l' x' hb' hx' := by
    rw [AH.get_set] at hx'
    split at hx'
    · cases hx'; trivial
    · exact h.lv b' l' x' hb' hx'
  inj b1 b2 l1 l2 x1 x2 h1 h2 g1 g2 r1 r2 e := by
    rw [AH.get_set] at g1 g2
    split at g1
    · cases g1; simp [ABlk.rw] at r1
    · split at g2
      · cases g2; simp [ABlk.live] at r2
      · exact h.inj b1 b2 l1 l2 x1 x2 h1 h2 g1 g2 r1 r2 e
  ge b1 l1 x1 h1 g1 r1 := by
    rw [AH.get_set] at g1
    split at g1
    · cases g1; simp [ABlk.rw] at r1
    · exact h.ge b1 l1 x1 h1 g1 r1
  old := h.old
  size := h.size
  vis b1 l1 x1 h1 g1 r1 := by
    rw [AH.get_set] at g1
    split at g1
    · cases g1; simp [ABlk.live] at r1
    · exact h.vis b1 l1 x1 h1 g1 r1
  tot b1 x1 g1 r1 := by
    rw [AH.get_set] at g1
    split at g1
    · cases g1; simp [ABlk.live] at r1
    · exact h.tot b1 x1 g1 r1
  glob := h.glob
  env := h.env

/-- a row is given up, and another one takes its block over. -/
theorem HR.takeover (h : HR P w0 ρ H w) {b : Nat} {l : Loc} {x y : ABlk} {l' : Loc} (hb : ρ b = some l) (hx : H.get b = some x) (hrw : x.rw = true)
    (hs : w'.heap.size = w.heap.size) (hother : ∀ i, i ≠ l.blk → w'.heap[i]? = w.heap[i]?) (ho : w'.os = w.os) (hp : w'.output = w.output) (ht : w'.tape = w.tape)
    (hl : l'.blk = l.blk) (hy : BR P (ρ.upd H.next l') w' l' y) : ρ.le (ρ.upd H.next l') ∧ HR P w0 (ρ.upd H.next l') ((H.set b .dead).new y) w' := by
  have hn : ρ H.next = none := h.dom _ (Nat.le_refl _)
  have hle : ρ.le (ρ.upd H.next l') := Ren.le_upd hn
  have hbn : b ≠ H.next := fun e => by subst e; rw [hn] at hb; cases hb
  refine ⟨hle, ?_⟩
  have key : ∀ b2 l2 x2, b2 ≠ b → ρ b2 = some l2 → H.get b2 = some x2 → x2.live = true → l2.blk ≠ l.blk :=
    fun b2 l2 x2 hne h2 g2 r2 e => hne (h.inj b b2 l l2 x x2 hb h2 hx g2 hrw r2 e.symm).symm
  refine ⟨?_, ?_, ?_, ?_, ?_, ?_, ?_, ?_, ?_, ?_⟩
  · intro b hb; rw [Ren.upd_ne (by simp at hb; omega)]; exact h.dom b (by simp at hb; omega)
  · intro b1 l1 x1 h1 g1
    rw [AH.get_new, AH.get_set, AH.set_next] at g1
    by_cases e : b1 = H.next
    · subst e; simp at h1 g1; subst h1; subst g1; exact hy
    · rw [if_neg e] at g1; rw [Ren.upd_ne e] at h1
      split at g1
      · cases g1; trivial
      · rename_i hne
        by_cases hlv : x1.live = true
        · exact ((h.lv b1 l1 x1 h1 g1).mono hle).world (hother _ (key b1 l1 x1 hne h1 g1 hlv))
        · cases x1 <;> simp [ABlk.live] at hlv; trivial
  · intro b1 b2 l1 l2 x1 x2 h1 h2 g1 g2 r1 r2 e
    rw [AH.get_new, AH.get_set, AH.set_next] at g1 g2
    by_cases e1 : b1 = H.next
    · by_cases e2 : b2 = H.next
      · rw [e1, e2]
      · exfalso
        subst e1; simp at h1; subst h1
        rw [if_neg e2] at g2; rw [Ren.upd_ne e2] at h2
        split at g2
        · cases g2; simp [ABlk.live] at r2
        · rename_i hne; exact key b2 l2 x2 hne h2 g2 r2 (by rw [← e, hl])
    · rw [if_neg e1] at g1; rw [Ren.upd_ne e1] at h1
      split at g1
      · cases g1; simp [ABlk.rw] at r1
      · rename_i hne1
        by_cases e2 : b2 = H.next
        · exfalso
          subst e2; simp at h2; subst h2
          exact key b1 l1 x1 hne1 h1 g1 (ABlk.live_of_rw r1) (by rw [e, hl])
        · rw [if_neg e2] at g2; rw [Ren.upd_ne e2] at h2
          split at g2
          · cases g2; simp [ABlk.live] at r2
          · exact h.inj b1 b2 l1 l2 x1 x2 h1 h2 g1 g2 r1 r2 e
  · intro b1 l1 x1 h1 g1 r1
    rw [AH.get_new, AH.get_set, AH.set_next] at g1
    by_cases e1 : b1 = H.next
    · subst e1; simp at h1; subst h1; rw [hl]; exact h.ge b l x hb hx hrw
    · rw [if_neg e1] at g1; rw [Ren.upd_ne e1] at h1
      split at g1
      · cases g1; simp [ABlk.rw] at r1
      · exact h.ge b1 l1 x1 h1 g1 r1
  · intro b1 hb1
    have := h.ge b l x hb hx hrw
    rw [hother b1 (fun e => this (e ▸ hb1))]; exact h.old b1 hb1
  · rw [hs]; exact h.size
  · intro b1 l1 x1 h1 g1 r1
    rw [AH.get_new, AH.get_set, AH.set_next] at g1
    by_cases e1 : b1 = H.next
    · subst e1; simp at h1; subst h1; rw [hl]; exact h.vis b l x hb hx (ABlk.live_of_rw hrw)
    · rw [if_neg e1] at g1; rw [Ren.upd_ne e1] at h1
      split at g1
      · cases g1; simp [ABlk.live] at r1
      · exact h.vis b1 l1 x1 h1 g1 r1
  · intro b1 x1 g1 r1
    rw [AH.get_new, AH.get_set, AH.set_next] at g1
    by_cases e1 : b1 = H.next
    · subst e1; exact ⟨l', Ren.upd_same _ _ _⟩
    · rw [if_neg e1] at g1
      split at g1
      · cases g1; simp [ABlk.live] at r1
      · obtain ⟨l1, q⟩ := h.tot b1 x1 g1 r1
        exact ⟨l1, hle _ _ q⟩
  · intro g hg; obtain ⟨m, u, e⟩ := h.glob g hg; exact ⟨m, u, hle _ _ e⟩
  · exact ⟨ho.trans h.env.1, hp.trans h.env.2.1, ht.trans h.env.2.2⟩

/-- where a call stands that sees a part of the heap alone. -/
def Base.sub (w : World) (ρ : Ren) (Hr : AH) : Base where
  world := w
  fz k := k < w.heap.size ∧ ∀ b l x, ρ b = some l → Hr.get b = some x → x.rw = true → l.blk ≠ k
  vis k := ∃ b l x, ρ b = some l ∧ Hr.get b = some x ∧ x.live = true ∧ l.blk = k
  lt _k h := h.1
theorem HR.frame (h : HR P w0 ρ H w) {Hr : AH} (hn : Hr.next = H.next) (hg : ∀ b x, Hr.get b = some x → H.get b = some x) : HR P (Base.sub w ρ Hr) ρ Hr w where
  dom := by rw [hn]; exact h.dom
  lv b l x hb hx := h.lv b l x hb (hg b x hx)
  inj b b' l l' x x' hb hb' hx hx' := h.inj b b' l l' x x' hb hb' (hg _ _ hx) (hg _ _ hx')
  ge b l x hb hx hr := fun hf => hf.2 b l x hb hx hr rfl
  old b _ := rfl
  size := Nat.le_refl _
  vis b l x hb hx hr _ := ⟨b, l, x, hb, hx, hr, rfl⟩
  tot b x hx hr := h.tot b x (hg b x hx) hr
  glob := h.glob
  env := ⟨rfl, rfl, rfl⟩
theorem HR.back (h : HR P w0 ρ H w) {Hr : AH} (hg : ∀ b x, Hr.get b = some x → H.get b = some x) {ρ' : Ren} {H1 H' : AH} (hle : ρ.le ρ') (h1 : HR P (Base.sub w ρ Hr) ρ' H1 w')
    (hn : H'.next = H1.next) (hb : ∀ b x, H'.get b = some x → H1.get b = some x ∨ (Hr.get b = none ∧ H.get b = some x)) : HR P w0 ρ' H' w' := by
  have out : ∀ b x l, Hr.get b = none → H.get b = some x → x.live = true → ρ' b = some l → ρ b = some l ∧ (Base.sub w ρ Hr).fz l.blk ∧ w'.heap[l.blk]? = w.heap[l.blk]? := by
    intro b x l e1 e2 e3 e4
    obtain ⟨l0, e5⟩ := h.tot b x e2 e3
    have := hle _ _ e5
    rw [e4] at this; cases this
    have hf : (Base.sub w ρ Hr).fz l.blk := by
      refine ⟨(h.lv b l x e5 e2).blk_lt e3, fun b0 l0 x0 q1 q2 q3 q4 => ?_⟩
      have := h.inj b0 b l0 l x0 x q1 e5 (hg _ _ q2) e2 q3 e3 q4
      subst this; rw [e1] at q2; cases q2
    exact ⟨e5, hf, h1.old _ hf⟩
  have vis1 : ∀ b l x, ρ' b = some l → H1.get b = some x → x.live = true → l.blk < w.heap.size → ∃ b0 x0 l0, ρ b0 = some l0 ∧ Hr.get b0 = some x0 ∧ x0.live = true ∧ l0.blk = l.blk := by
    intro b l x e1 e2 e3 e4
    obtain ⟨b0, l0, x0, q1, q2, q3, q4⟩ := h1.vis b l x e1 e2 e3 e4
    exact ⟨b0, x0, l0, q1, q2, q3, q4⟩
  refine ⟨?_, ?_, ?_, ?_, ?_, ?_, ?_, ?_, ?_, ?_⟩
  · rw [hn]; exact h1.dom
  · intro b l x e1 e2
    rcases hb b x e2 with q | ⟨q1, q2⟩
    · exact h1.lv b l x e1 q
    · by_cases hl : x.live = true
      · obtain ⟨p1, p2, p3⟩ := out b x l q1 q2 hl e1
        exact ((h.lv b l x p1 q2).mono hle).world p3
      · cases x <;> simp [ABlk.live] at hl; trivial
  · intro b b' l l' x x' e1 e2 e3 e4 r1 r2 e
    rcases hb b x e3 with q | ⟨q1, q2⟩
    · rcases hb b' x' e4 with u | ⟨u1, u2⟩
      · exact h1.inj b b' l l' x x' e1 e2 q u r1 r2 e
      · obtain ⟨p1, p2, p3⟩ := out b' x' l' u1 u2 r2 e2
        exact absurd (e ▸ p2) (h1.ge b l x e1 q r1)
    · obtain ⟨p1, p2, p3⟩ := out b x l q1 q2 (ABlk.live_of_rw r1) e1
      rcases hb b' x' e4 with u | ⟨u1, u2⟩
      · exfalso
        have hlt : l'.blk < w.heap.size := by rw [← e]; exact p2.1
        obtain ⟨b0, x0, l0, v1, v2, v3, v4⟩ := vis1 b' l' x' e2 u r2 hlt
        have := h.inj b b0 l l0 x x0 p1 v1 q2 (hg _ _ v2) r1 v3 (by rw [v4, e])
        subst this; rw [q1] at v2; cases v2
      · obtain ⟨p4, _, _⟩ := out b' x' l' u1 u2 r2 e2
        exact h.inj b b' l l' x x' p1 p4 q2 u2 r1 r2 e
  · intro b l x e1 e2 r1 hf
    rcases hb b x e2 with q | ⟨q1, q2⟩
    · have hlt : l.blk < w.heap.size := Nat.lt_of_lt_of_le (w0.lt _ hf) h.size
      refine h1.ge b l x e1 q r1 ⟨hlt, fun b0 l0 x0 v1 v2 v3 v4 => ?_⟩
      exact h.ge b0 l0 x0 v1 (hg _ _ v2) v3 (v4 ▸ hf)
    · obtain ⟨p1, p2, p3⟩ := out b x l q1 q2 (ABlk.live_of_rw r1) e1
      exact h.ge b l x p1 q2 r1 hf
  · intro k hk
    have hf : (Base.sub w ρ Hr).fz k := ⟨Nat.lt_of_lt_of_le (w0.lt _ hk) h.size, fun b0 l0 x0 v1 v2 v3 v4 => h.ge b0 l0 x0 v1 (hg _ _ v2) v3 (v4 ▸ hk)⟩
    exact (h1.old k hf).trans (h.old k hk)
  · exact Nat.le_trans h.size h1.size
  · intro b l x e1 e2 r1 hlt
    rcases hb b x e2 with q | ⟨q1, q2⟩
    · obtain ⟨b0, x0, l0, v1, v2, v3, v4⟩ := vis1 b l x e1 q r1 (Nat.lt_of_lt_of_le hlt h.size)
      rw [← v4] at hlt ⊢
      exact h.vis b0 l0 x0 v1 (hg _ _ v2) v3 hlt
    · obtain ⟨p1, p2, p3⟩ := out b x l q1 q2 r1 e1
      exact h.vis b l x p1 q2 r1 hlt
  · intro b x e2 r1
    rcases hb b x e2 with q | ⟨q1, q2⟩
    · exact h1.tot b x q r1
    · obtain ⟨l, q⟩ := h.tot b x q2 r1
      exact ⟨l, hle _ _ q⟩
  · exact h1.glob
  · exact ⟨h1.env.1.trans h.env.1, h1.env.2.1.trans h.env.2.1, h1.env.2.2.trans h.env.2.2⟩
end Go.Mt
/- Runs of the model's small programs over rows of cells, as lists. -/
namespace Go.Mt
variable {P : Program}

/-- w' is w but for block g. -/
structure Chg (w w' : World) (g : Nat) : Prop where
  size : w'.heap.size = w.heap.size
  other : ∀ i, i ≠ g → w'.heap[i]? = w.heap[i]?
  os : w'.os = w.os
  output : w'.output = w.output
  tape : w'.tape = w.tape
theorem Chg.refl (w : World) (g : Nat) : Chg w w g := ⟨rfl, fun _ _ => rfl, rfl, rfl, rfl⟩
theorem Chg.trans {w w' w'' : World} {g : Nat} (h : Chg w w' g) (h' : Chg w' w'' g) : Chg w w'' g :=
  ⟨h'.size.trans h.size, fun i hi => (h'.other i hi).trans (h.other i hi), h'.os.trans h.os, h'.output.trans h.output, h'.tape.trans h.tape⟩

theorem cell_at {w : World} {g o : Nat} {cs : Array Value} {e : TypeId} {fz : Nat × Nat} (h : w.heap[g]? = some (.cells cs e fz)) : w.cell? ⟨g, o, none⟩ = cs[o]? := by
  simp [World.cell?, h]
theorem frozen_at {w : World} {g o : Nat} {cs : Array Value} {e : TypeId} {fz : Nat × Nat} (h : w.heap[g]? = some (.cells cs e fz)) : w.frozen? ⟨g, o, none⟩ = (decide (fz.1 ≤ o) && decide (o < fz.2)) := by
  obtain ⟨a, b⟩ := fz
  simp [World.frozen?, h]
theorem setCell_at {w : World} {g o : Nat} {cs : Array Value} {e : TypeId} {fz : Nat × Nat} (v : Value) (h : w.heap[g]? = some (.cells cs e fz)) :
    (w.setCell ⟨g, o, none⟩ v).heap[g]? = some (.cells (cs.setIfInBounds o v) e fz) ∧ Chg w (w.setCell ⟨g, o, none⟩ v) g := by
  refine ⟨?_, ⟨by simp, fun i hi => ?_, rfl, rfl, rfl⟩⟩
  · simp [World.setCell, Array.getElem?_modify, h]
  · simp [World.setCell, Array.getElem?_modify, Ne.symm hi]

theorem run_load_at {w : World} {g o : Nat} {cs : Array Value} {e : TypeId} {fz : Nat × Nat} {v : Value} (h : w.heap[g]? = some (.cells cs e fz)) (hv : cs[o]? = some v) (m : Mode) :
    (load ⟨g, o, none⟩ m).run P w = .ok v w := by
  rw [run_load, cell_at h, hv]

theorem addr_add (g o n : Nat) : Addr.add ⟨g, o, none⟩ n = ⟨g, o + n, none⟩ := Addr.add_lit g o n

theorem run_loadCells_at {w : World} {g o n : Nat} {cs : Array Value} {e : TypeId} {fz : Nat × Nat} (h : w.heap[g]? = some (.cells cs e fz)) (hn : o + n ≤ cs.size) :
    (loadCells ⟨g, o, none⟩ n).run P w = .ok ⟨(cs.toList.drop o).take n⟩ w := by
  have := run_loadCells_list (P := P) (w := w) ⟨g, o, none⟩ ((cs.toList.drop o).take n) (fun j v hj => by
    rw [addr_add, cell_at h]
    rw [List.getElem?_take] at hj
    split at hj
    · rw [List.getElem?_drop] at hj; simpa using hj
    · cases hj)
  have hl : ((cs.toList.drop o).take n).length = n := by simp; omega
  rw [hl] at this
  exact this

theorem set_list {α : Type} {l : List α} {n : Nat} (v : α) (vs : List α) (h : n < l.length) :
    (l.set n v).take (n + 1) ++ vs ++ (l.set n v).drop (n + 1 + vs.length) = l.take n ++ (v :: vs) ++ l.drop (n + (vs.length + 1)) := by
  have h1 : (l.set n v).take (n + 1) = l.take n ++ [v] := by
    apply List.ext_getElem?
    intro j
    rw [List.getElem?_take]
    by_cases hj : j < n
    · rw [if_pos (by omega), List.getElem?_append_left (by simp; omega), List.getElem?_take, if_pos hj, List.getElem?_set_ne (by omega)]
    · by_cases hj2 : j = n
      · subst hj2
        rw [if_pos (by omega), List.getElem?_append_right (by simp; omega)]
        have : min j l.length = j := by omega
        simp [h, this]
      · rw [if_neg (by omega)]; symm; rw [List.getElem?_eq_none_iff]; simp; omega
  have h2 : (l.set n v).drop (n + 1 + vs.length) = l.drop (n + (vs.length + 1)) := by
    apply List.ext_getElem?
    intro j
    rw [List.getElem?_drop, List.getElem?_drop, List.getElem?_set_ne (by omega)]
    congr 1; omega
  rw [h1, h2]; simp

theorem run_storeCells_list (g o : Nat) (e : TypeId) (fz : Nat × Nat) : ∀ (vs : List Value) (i : Nat) (cur : Array Value) (w : World), w.heap[g]? = some (.cells cur e fz) → (cur.size ≤ fz.1 ∨ fz.2 ≤ fz.1) →
    o + i + vs.length ≤ cur.size → (∀ v ∈ vs, v.oneCell' = true) →
    ∃ w', (storeCells ⟨g, o, none⟩ vs i).run P w = .ok () w' ∧ w'.heap[g]? = some (.cells ⟨cur.toList.take (o + i) ++ vs ++ cur.toList.drop (o + i + vs.length)⟩ e fz) ∧ Chg w w' g
  | [], i, cur, w, h, hf, hl, ho => by
    refine ⟨w, rfl, ?_, Chg.refl w g⟩
    rw [h]; simp
  | v :: vs, i, cur, w, h, hf, hl, ho => by
    simp only [List.length_cons] at hl
    have hlt : o + i < cur.size := by omega
    have hset := setCell_at (o := o + i) v h
    obtain ⟨w', h1, h2, h3⟩ := run_storeCells_list g o e fz vs (i + 1) (cur.setIfInBounds (o + i) v) (w.setCell ⟨g, o + i, none⟩ v) hset.1 (by simpa using hf) (by simp; omega) (fun x hx => ho x (by simp [hx]))
    refine ⟨w', ?_, ?_, hset.2.trans h3⟩
    · have hs : (store ⟨g, o + i, none⟩ v).run P w = .ok () (w.setCell ⟨g, o + i, none⟩ v) := by
        rw [run_store P w _ v .plain (ho v (by simp)), cell_at h, frozen_at h]
        have : (decide (fz.1 ≤ o + i) && decide (o + i < fz.2)) = false := by
          simp only [Bool.and_eq_false_imp, decide_eq_true_eq, decide_eq_false_iff_not]; omega
        simp [hlt, this]
      simp only [storeCells, addr_add, Sem.run_bind, hs, Result.andThen_ok, h1]
    · rw [h2]
      congr 3
      simp only [Array.toList_setIfInBounds, List.length_cons]
      exact set_list v vs (by simpa using hlt)

theorem run_typeInfo {t : TypeId} {i : TypeInfo} (h : P.info? t = some i) (w : World) : (typeInfo t).run P w = .ok i w := by simp [typeInfo, h]
theorem run_sizeOf {t : TypeId} {i : TypeInfo} (h : P.info? t = some i) (w : World) : (sizeOf t).run P w = .ok i.size w := by simp [sizeOf, run_typeInfo h]
theorem run_underlying {t : TypeId} {d : TypeDesc} (h : P.underlying t = some d) (w : World) : (underlying t).run P w = .ok d w := by simp [underlying, h]
theorem run_zeroValue {t : TypeId} {i : TypeInfo} {z : Value} (h : P.info? t = some i) (hz : i.zero = some z) (w : World) : (zeroValue t).run P w = .ok z w := by simp [zeroValue, run_typeInfo h, hz]

def aggT (P : Program) (t : TypeId) : Option Bool :=
  match P.underlying t with
  | some (.struct _) | some (.array _ _) => some true
  | some _ => some false
  | none => none
theorem run_isAgg {t : TypeId} {b : Bool} (h : aggT P t = some b) (w : World) : (isAgg t).run P w = .ok b w := by
  unfold aggT at h
  cases hu : P.underlying t with
  | none => rw [hu] at h; cases h
  | some d => rw [hu] at h; simp only [isAgg, Sem.run_bind, run_underlying hu, Result.andThen_ok]; cases d <;> simp_all
end Go.Mt
/- The abstract operations on memory and values, and that the model's do the same (part 1). -/
namespace Go.Mt
variable {P : Program} {w0 : Base} {w w' : World} {ρ : Ren} {H : AH}

abbrev OV := Option (Value × AH)
def ptr (b o : Nat) : Value := .pointer (some ⟨b, o, none⟩)

/-- the model's program comes to a value that the abstract one stands for. -/
def SV (P : Program) (w0 : Base) (ρ : Ren) (s : Sem Value) (w : World) (r : Value × AH) : Prop :=
  ∃ v' w' ρ', s.run P w = .ok v' w' ∧ ρ.le ρ' ∧ HR P w0 ρ' r.2 w' ∧ VR ρ' r.1 v'
def SU (P : Program) (w0 : Base) (ρ : Ren) (s : Sem Unit) (w : World) (r : AH) : Prop :=
  ∃ w' ρ', s.run P w = .ok () w' ∧ ρ.le ρ' ∧ HR P w0 ρ' r w'
theorem SV.pure {v : Value} {s : Sem Value} {v' : Value} (h : HR P w0 ρ H w) (hs : s.run P w = .ok v' w) (hv : VR ρ v v') : SV P w0 ρ s w (v, H) :=
  ⟨v', w, ρ, hs, Ren.le_refl ρ, h, hv⟩

/-! shapes of related values -/
theorem VR.ptr_some {a : Addr} {y : Value} (h : VR ρ (.pointer (some a)) y) : ∃ l, ρ a.block = some l ∧ a.spot = none ∧ y = .pointer (some ⟨l.blk, l.base + a.off, none⟩) := by
  simp only [VR] at h; obtain ⟨b, ⟨l, h1, h2, h3⟩, rfl⟩ := h; exact ⟨l, h1, h2, by rw [h3]⟩
theorem VR.mk_ptr {b o : Nat} {l : Loc} (h : ρ b = some l) : VR ρ (ptr b o) (.pointer (some ⟨l.blk, l.base + o, none⟩)) := by
  simp only [ptr, VR]; exact ⟨_, ⟨l, h, rfl, rfl⟩, rfl⟩
def tag : Value → Nat
  | .bool _ => 0 | .int _ _ => 1 | .float _ _ => 2 | .complex _ _ _ => 3 | .string _ => 4 | .pointer _ => 5 | .slice _ _ _ => 6 | .map _ => 7 | .chan _ => 8
  | .func _ _ _ => 9 | .nilFunc => 10 | .iface _ _ => 11 | .nilIface => 12 | .agg _ => 13 | .tuple _ => 14
theorem VR.tag : ∀ {x y : Value}, VR ρ x y → Mt.tag x = Mt.tag y
  | .bool _, _, r => by simp only [VR] at r; subst r; rfl
  | .int _ _, _, r => by simp only [VR] at r; subst r; rfl
  | .float _ _, _, r => by simp only [VR] at r; subst r; rfl
  | .complex _ _ _, _, r => by simp only [VR] at r; subst r; rfl
  | .string _, _, r => by simp only [VR] at r; subst r; rfl
  | .pointer none, _, r => by simp only [VR] at r; subst r; rfl
  | .pointer (some a), _, r => by simp only [VR] at r; obtain ⟨_, _, rfl⟩ := r; rfl
  | .slice none _ _, _, r => by simp only [VR] at r; obtain ⟨_, rfl⟩ := r; rfl
  | .slice (some a) _ _, _, r => by simp only [VR] at r; obtain ⟨_, _, _, rfl⟩ := r; rfl
  | .map none, _, r => by simp only [VR] at r; subst r; rfl
  | .map (some _), _, r => by simp only [VR] at r; obtain ⟨_, _, _, rfl⟩ := r; rfl
  | .chan _, _, r => by simp only [VR] at r; obtain ⟨rfl, rfl⟩ := r; rfl
  | .func f ⟨x⟩ ⟨z⟩, _, r => by simp only [VR] at r; obtain ⟨_, _, _, _, _, _, rfl⟩ := r; rfl
  | .nilFunc, _, r => by simp only [VR] at r; subst r; rfl
  | .iface t v, _, r => by simp only [VR] at r; obtain ⟨_, _, rfl⟩ := r; rfl
  | .nilIface, _, r => by simp only [VR] at r; subst r; rfl
  | .agg ⟨xs⟩, _, r => by simp only [VR] at r; obtain ⟨_, _, rfl⟩ := r; rfl
  | .tuple ⟨xs⟩, _, r => by simp only [VR] at r; obtain ⟨_, _, rfl⟩ := r; rfl
theorem cells_of_tag {y : Value} (h : tag y ≠ 13) : y.cells = #[y] := by cases y <;> simp_all [tag, Value.cells]
theorem VR.cells {v y : Value} (h : VR ρ v y) : VRL ρ v.cells.toList y.cells.toList := by
  by_cases ht : Mt.tag v = 13
  · cases v <;> simp [Mt.tag] at ht
    rename_i xs
    obtain ⟨xs⟩ := xs; simp only [VR] at h; obtain ⟨ys, h1, rfl⟩ := h; simpa [Value.cells] using h1
  · rw [cells_of_tag ht, cells_of_tag (h.tag ▸ ht)]
    exact VRL.cons h (by simp [VRL])
theorem VR.oneCell {v y : Value} (h : VR ρ v y) : y.oneCell' = v.oneCell' := by
  have := h.tag
  cases v <;> cases y <;> simp_all [Mt.tag, Value.oneCell']
theorem VR.cells_size {v y : Value} (h : VR ρ v y) : y.cells.size = v.cells.size := by
  have := h.cells.length; simpa using this.symm
theorem VRL.oneCell {xs ys : List Value} (h : VRL ρ xs ys) (ho : xs.all Value.oneCell' = true) : ∀ y ∈ ys, y.oneCell' = true := by
  intro y hy
  obtain ⟨i, hi, rfl⟩ := List.mem_iff_getElem.1 hy
  have hl := h.length
  have hx : xs[i]? = some xs[i] := List.getElem?_eq_getElem (by omega)
  have := (VRL.iff.1 h).2 i _ _ hx (List.getElem?_eq_getElem hi)
  rw [this.oneCell]
  exact List.all_eq_true.1 ho _ (List.getElem_mem _)

/-! load and store -/
noncomputable def aLoad (P : Program) (H : AH) (t : TypeId) (a : Value) : Option Value :=
  match a with
  | .pointer (some a) =>
    match H.get a.block with
    | some (.arr c _ _) =>
      match aggT P t with
      | some true => match P.info? t with
        | some i => if a.off + i.size ≤ c.length then some (.agg ⟨(c.drop a.off).take i.size⟩) else none
        | none => none
      | some false => c[a.off]?
      | none => none
    | _ => none
  | _ => none

theorem HR.arr (h : HR P w0 ρ H w) {b : Nat} {l : Loc} {c : List Value} {e : TypeId} {ro : Bool} (hb : ρ b = some l) (hx : H.get b = some (.arr c e ro)) :
    ∃ (cs : Array Value) (e' : TypeId) (fz : Nat × Nat) (i : TypeInfo), w.heap[l.blk]? = some (.cells cs e' fz) ∧ l.lim = cs.size ∧ P.info? e = some i ∧ l.unit = i.size ∧
      VRL ρ c ((cs.toList.drop l.base).take c.length) ∧ (ro = false → cs.size ≤ fz.1 ∨ fz.1 = fz.2) := h.lv b l _ hb hx
theorem row_len {c : List Value} {cs : Array Value} {base : Nat} (h : VRL ρ c ((cs.toList.drop base).take c.length)) : c = [] ∨ base + c.length ≤ cs.size := by
  have := h.length
  simp at this
  cases c with
  | nil => exact .inl rfl
  | cons x c => right; simp at *; omega

theorem aLoad_sim (h : HR P w0 ρ H w) {t : TypeId} {a a' v : Value} (ha : VR ρ a a') (hr : aLoad P H t a = some v) : ∃ v', (Instr.loadAt t a').run P w = .ok v' w ∧ VR ρ v v' := by
  unfold aLoad at hr
  split at hr <;> try cases hr
  rename_i ad
  obtain ⟨l, hl, _, rfl⟩ := ha.ptr_some
  split at hr <;> try cases hr
  rename_i c e ro hg
  obtain ⟨cs, e', fz, i, h1, h2, h3, h4, h5, h6⟩ := h.arr hl hg
  simp only [Instr.loadAt, Instr.sureAddr, Sem.run_bind, Sem.run_pure, Result.andThen_ok, loadVar]
  split at hr
  · rename_i ht
    simp only [run_isAgg ht, Result.andThen_ok]
    split at hr <;> try cases hr
    rename_i j hj
    split at hr <;> try cases hr
    rename_i hlen
    simp only [if_true, Sem.run_bind, run_sizeOf hj, Result.andThen_ok]
    rcases row_len h5 with hc | hc
    · subst hc
      have hz : j.size = 0 := by simpa using (show ad.off + j.size ≤ 0 from hlen) |> Nat.le_zero.1 |> fun h => (Nat.add_eq_zero_iff.1 h).2
      refine ⟨.agg ⟨[]⟩, ?_, by simp [VR, VRL, hz]⟩
      rw [hz]; simp [loadCells, loadCellsFrom]
    · rw [run_loadCells_at h1 (by omega)]
      simp only [Result.andThen_ok, Sem.run_pure]
      refine ⟨_, rfl, ?_⟩
      simp only [VR]
      refine ⟨_, ?_, rfl⟩
      have := (h5.drop ad.off).take j.size
      rwa [List.drop_take, List.drop_drop, List.take_take, Nat.min_eq_left (by omega)] at this
  · rename_i ht
    simp only [run_isAgg ht, Result.andThen_ok, Bool.false_eq_true, if_false]
    obtain ⟨y, hy, hv⟩ := h5.get hr
    refine ⟨y, ?_, hv⟩
    refine run_load_at h1 ?_ _
    rw [List.getElem?_take] at hy
    split at hy
    · rw [List.getElem?_drop] at hy; simpa using hy
    · cases hy
  · cases hr

noncomputable def aStore (P : Program) (H : AH) (t : TypeId) (a v : Value) : Option AH :=
  match a with
  | .pointer (some a) =>
    match H.get a.block with
    | some (.arr c e false) =>
      match P.info? t with
      | some i => if v.cells.size = i.size ∧ a.off + i.size ≤ c.length ∧ v.cells.toList.all Value.oneCell' = true then
          some (H.set a.block (.arr (c.take a.off ++ v.cells.toList ++ c.drop (a.off + i.size)) e false)) else none
      | none => none
    | _ => none
  | _ => none

theorem VRL.splice {c d xs ys : List Value} (o : Nat) (h : VRL ρ c d) (hx : VRL ρ xs ys) : VRL ρ (c.take o ++ xs ++ c.drop (o + xs.length)) (d.take o ++ ys ++ d.drop (o + xs.length)) :=
  ((h.take o).append hx).append (h.drop _)

/-- cells stored into a row. -/
theorem store_sim (h : HR P w0 ρ H w) {b o : Nat} {l : Loc} {c : List Value} {e : TypeId} {xs ys : List Value} (hb : ρ b = some l) (hx : H.get b = some (.arr c e false))
    (hlen : o + xs.length ≤ c.length) (hxy : VRL ρ xs ys) (ho : xs.all Value.oneCell' = true) :
    ∃ w', (storeCells ⟨l.blk, l.base + o, none⟩ ys 0).run P w = .ok () w' ∧ HR P w0 ρ (H.set b (.arr (c.take o ++ xs ++ c.drop (o + xs.length)) e false)) w' := by
  obtain ⟨cs, e', fz, i, h1, h2, h3, h4, h5, h6⟩ := h.arr hb hx
  have hyl : ys.length = xs.length := hxy.length.symm
  cases hxs : xs with
  | nil =>
    subst hxs
    simp only [VRL] at hxy; subst hxy
    refine ⟨w, rfl, ?_⟩
    refine h.update hb hx rfl rfl (fun _ _ => rfl) rfl rfl rfl ?_
    refine ⟨cs, e', fz, i, h1, h2, h3, h4, ?_, h6⟩
    simpa using h5
  | cons x0 xs0 =>
    rw [← hxs]
    have hne : xs.length ≠ 0 := by rw [hxs]; simp
    have hc : l.base + c.length ≤ cs.size := by
      rcases row_len h5 with hc | hc
      · exfalso; rw [hc] at hlen; simp only [List.length_nil] at hlen; omega
      · exact hc
    have hcl : cs.toList.length = cs.size := rfl
    obtain ⟨w', s1, s2, s3⟩ := run_storeCells_list (P := P) l.blk (l.base + o) e' fz ys 0 cs w h1 ((h6 rfl).imp id fun e => Nat.le_of_eq e.symm) (by omega) (hxy.oneCell ho)
    refine ⟨w', s1, ?_⟩
    refine h.update hb hx rfl s3.size (fun j hj => s3.other j hj) s3.os s3.output s3.tape ?_
    refine ⟨_, e', fz, i, s2, ?_, h3, h4, ?_, ?_⟩
    · rw [h2]; simp; omega
    · have hb2 : l.base + o ≤ cs.toList.length := by simp; omega
      simp only [Nat.add_zero]
      have e1 : (cs.toList.take (l.base + o) ++ ys ++ cs.toList.drop (l.base + o + ys.length)).drop l.base = (cs.toList.drop l.base).take o ++ ys ++ (cs.toList.drop l.base).drop (o + ys.length) := by
        rw [List.append_assoc, List.drop_append_of_le_length (by simp; omega), List.drop_take, List.drop_drop, List.append_assoc]
        rw [show l.base + o - l.base = o by omega, show l.base + (o + ys.length) = l.base + o + ys.length by omega]
      rw [e1]
      have e2 : ((cs.toList.drop l.base).take o ++ ys ++ (cs.toList.drop l.base).drop (o + ys.length)).take (c.take o ++ xs ++ c.drop (o + xs.length)).length =
          ((cs.toList.drop l.base).take c.length).take o ++ ys ++ ((cs.toList.drop l.base).take c.length).drop (o + xs.length) := by
        have : (c.take o ++ xs ++ c.drop (o + xs.length)).length = c.length := by simp; omega
        rw [this, List.take_append, List.take_append]
        simp only [List.length_take, List.length_drop, Array.length_toList, List.length_append]
        rw [List.take_take, List.take_take, Nat.min_comm c.length o, List.take_of_length_le (show ys.length ≤ _ by omega), List.drop_take, hyl]
        congr 2
        omega
      rw [e2]
      exact h5.splice o hxy
    · intro _
      have : (cs.toList.take (l.base + o + 0) ++ ys ++ cs.toList.drop (l.base + o + 0 + ys.length)).length = cs.size := by simp; omega
      show (Array.mk _).size ≤ fz.1 ∨ _
      simp only [List.size_toArray, this]
      exact h6 rfl

theorem aStore_sim (h : HR P w0 ρ H w) {t : TypeId} {a a' v v' : Value} {H' : AH} (ha : VR ρ a a') (hv : VR ρ v v') (hr : aStore P H t a v = some H') :
    ∃ w', (Instr.storeAt t a' v').run P w = .ok () w' ∧ HR P w0 ρ H' w' := by
  unfold aStore at hr
  split at hr <;> try cases hr
  rename_i ad
  obtain ⟨l, hl, _, rfl⟩ := ha.ptr_some
  split at hr <;> try cases hr
  rename_i c e hg
  split at hr <;> try cases hr
  rename_i i hi
  split at hr <;> try cases hr
  rename_i hc
  obtain ⟨hc1, hc2, hc3⟩ := hc
  have hsz : v.cells.toList.length = i.size := by simpa using hc1
  obtain ⟨w', s1, s2⟩ := store_sim h hl hg (o := ad.off) (by omega) hv.cells hc3
  rw [hsz] at s2
  refine ⟨w', ?_, s2⟩
  simp only [Instr.storeAt, Instr.sureAddr, Sem.run_bind, Sem.run_pure, Result.andThen_ok, storeVar, run_sizeOf hi]
  rw [if_neg (by rw [hv.cells_size, hc1]; simp)]
  simpa using s1

/-! new rows -/
theorem newRow_sim (h : HR P w0 ρ H w) {xs ys : List Value} {e : TypeId} {i : TypeInfo} (hi : P.info? e = some i) (hxy : VRL ρ xs ys) (ro : Bool) :
    ∃ w' l, (newRow e ⟨ys⟩).run P w = .ok ⟨l.blk, 0, none⟩ w' ∧ l.base = 0 ∧ l.lim = xs.length ∧ l.unit = i.size ∧ ρ.le (ρ.upd H.next l) ∧ HR P w0 (ρ.upd H.next l) (H.new (.arr xs e ro)) w' := by
  refine ⟨{ w with heap := w.heap.push (.cells ⟨ys⟩ e) }, ⟨w.heap.size, 0, xs.length, i.size⟩, rfl, rfl, rfl, rfl, ?_⟩
  have hn : ρ H.next = none := h.dom _ (Nat.le_refl _)
  refine h.new (o := .cells ⟨ys⟩ e) rfl rfl rfl rfl rfl ?_
  refine ⟨⟨ys⟩, e, (0, 0), i, by simp, ?_, hi, rfl, ?_, fun _ => .inr rfl⟩
  · simpa using hxy.length
  · have := hxy.length
    simp only [List.drop_zero]
    rw [List.take_of_length_le (by omega)]
    exact hxy.mono (Ren.le_upd hn)
noncomputable def aBox (P : Program) (H : AH) (e : TypeId) (v : Value) : OV :=
  match P.info? e with
  | some _ => some (ptr H.next 0, H.new (.arr v.cells.toList e false))
  | none => none
theorem aBox_sim (h : HR P w0 ρ H w) {e : TypeId} {v v' : Value} {r : Value × AH} (hv : VR ρ v v') (hr : aBox P H e v = some r) : SV P w0 ρ (Instr.box e v') w r := by
  unfold aBox at hr
  split at hr <;> cases hr
  rename_i i hi
  obtain ⟨w', l, s1, hb, _, _, hle, s2⟩ := newRow_sim h hi hv.cells false
  refine ⟨_, w', _, ?_, hle, s2, VR.mk_ptr (Ren.upd_same _ _ _)⟩
  simp only [Instr.box, newVar, Sem.run_bind]
  rw [show v'.cells = ⟨v'.cells.toList⟩ from rfl, s1]
  simp [hb]
noncomputable def aAlloc (P : Program) (H : AH) (e : TypeId) : OV :=
  match P.info? e with
  | some i => match i.zero with
    | some z => if closed z then some (ptr H.next 0, H.new (.arr z.cells.toList e false)) else none
    | none => none
  | none => none
theorem aAlloc_sim (h : HR P w0 ρ H w) {e : TypeId} {r : Value × AH} (hr : aAlloc P H e = some r) : SV P w0 ρ (Instr.alloc e true (.tuple #[])) w r := by
  unfold aAlloc at hr
  split at hr <;> try cases hr
  rename_i i hi
  split at hr <;> try cases hr
  rename_i z hz
  split at hr <;> cases hr
  rename_i hc
  obtain ⟨w', l, s1, hb, _, _, hle, s2⟩ := newRow_sim h hi (VR.of_closed ρ hc).cells false
  refine ⟨_, w', _, ?_, hle, s2, VR.mk_ptr (Ren.upd_same _ _ _)⟩
  simp only [Instr.alloc, Sem.run_bind, run_zeroValue hi hz, Result.andThen_ok, newVar]
  rw [show z.cells = ⟨z.cells.toList⟩ from rfl, s1]
  simp [hb]
end Go.Mt
/- Abstract operations, part 2: what touches no memory; parts and wholes. -/
namespace Go.Mt
variable {P : Program} {w0 : Base} {w w' : World} {ρ : Ren} {H : AH}

mutual
theorem VR.eq_of_closed : ∀ {x y : Value}, closed x = true → VR ρ x y → y = x
  | .bool _, _, _, r => by simpa only [VR] using r
  | .int _ _, _, _, r => by simpa only [VR] using r
  | .float _ _, _, _, r => by simpa only [VR] using r
  | .complex _ _ _, _, _, r => by simpa only [VR] using r
  | .string _, _, _, r => by simpa only [VR] using r
  | .pointer none, _, _, r => by simpa only [VR] using r
  | .pointer (some a), _, h, _ => by simp [closed] at h
  | .slice none n c, _, h, r => by simp [closed] at h; simp only [VR] at r; rw [r.2, h.1, h.2]
  | .slice (some a) _ _, _, h, _ => by simp [closed] at h
  | .map none, _, _, r => by simpa only [VR] using r
  | .map (some _), _, h, _ => by simp [closed] at h
  | .chan none, _, _, r => by simp only [VR] at r; exact r.2
  | .chan (some _), _, h, _ => by simp [closed] at h
  | .func f ⟨x⟩ ⟨z⟩, _, h, r => by
    simp only [closed, Bool.and_eq_true] at h
    simp only [VR] at r; obtain ⟨g, x', z', h1, h2, h3, rfl⟩ := r
    rw [VRL.eq_of_closed h.1.2 h2, VRL.eq_of_closed h.2 h3]
    cases f <;> simp_all [FnR]
  | .nilFunc, _, _, r => by simpa only [VR] using r
  | .iface t v, _, h, r => by simp only [closed] at h; simp only [VR] at r; obtain ⟨v', h1, rfl⟩ := r; rw [VR.eq_of_closed h h1]
  | .nilIface, _, _, r => by simpa only [VR] using r
  | .agg ⟨xs⟩, _, h, r => by simp only [closed] at h; simp only [VR] at r; obtain ⟨ys, h1, rfl⟩ := r; rw [VRL.eq_of_closed h h1]
  | .tuple ⟨xs⟩, _, h, r => by simp only [closed] at h; simp only [VR] at r; obtain ⟨ys, h1, rfl⟩ := r; rw [VRL.eq_of_closed h h1]
theorem VRL.eq_of_closed : ∀ {xs ys : List Value}, closedL xs = true → VRL ρ xs ys → ys = xs
  | [], _, _, r => by simpa only [VRL] using r
  | x :: xs, _, h, r => by
    simp only [closedL, Bool.and_eq_true] at h
    simp only [VRL] at r; obtain ⟨y, ys', h1, h2, rfl⟩ := r
    rw [VR.eq_of_closed h.1 h1, VRL.eq_of_closed h.2 h2]
end

/-- a program that looks into no memory: its value, or its panic. -/
def pureRun {α : Type} (P : Program) : Sem α → Option (Except Value α)
  | .pure a => some (.ok a)
  | .program k => pureRun P (k P)
  | .mark _ k => pureRun P k
  | .halt (.panic v) => some (.error v)
  | _ => none
theorem pureRun_ok {α : Type} : ∀ {s : Sem α} {a : α}, pureRun P s = some (.ok a) → ∀ w, s.run P w = .ok a w
  | .pure a, _, h, w => by simp [pureRun] at h; subst h; rfl
  | .program k, _, h, w => by simp only [pureRun] at h; simp only [Sem.run]; exact pureRun_ok h w
  | .mark _ k, _, h, w => by simp only [pureRun] at h; simp only [Sem.run]; exact pureRun_ok h w
  | .halt x, _, h, w => by cases x <;> simp [pureRun] at h
  | .load .., _, h, _ | .store .., _, h, _ | .new .., _, h, _ | .shape .., _, h, _ | .freeze .., _, h, _ | .frozen .., _, h, _ | .getObj .., _, h, _
  | .setObj .., _, h, _ | .choose .., _, h, _ | .sys .., _, h, _ => by simp [pureRun] at h
theorem pureRun_panic {α : Type} : ∀ {s : Sem α} {v : Value}, pureRun P s = some (.error v) → ∀ w, s.run P w = .halt (.panic v) w
  | .pure a, _, h, w => by simp [pureRun] at h
  | .program k, _, h, w => by simp only [pureRun] at h; simp only [Sem.run]; exact pureRun_panic h w
  | .mark _ k, _, h, w => by simp only [pureRun] at h; simp only [Sem.run]; exact pureRun_panic h w
  | .halt x, _, h, w => by cases x <;> simp [pureRun] at h; subst h; rfl
  | .load .., _, h, _ | .store .., _, h, _ | .new .., _, h, _ | .shape .., _, h, _ | .freeze .., _, h, _ | .frozen .., _, h, _ | .getObj .., _, h, _
  | .setObj .., _, h, _ | .choose .., _, h, _ | .sys .., _, h, _ => by simp [pureRun] at h

/-! parts -/
theorem extract_list (cs : Array Value) (a b : Nat) : cs.extract a b = ⟨(cs.toList.drop a).take (b - a)⟩ := by
  apply Array.toList_inj.1; simp
def aPart (P : Program) (t : TypeId) (cs : List Value) (off : Nat) : Option Value :=
  match aggT P t with
  | some true => match P.info? t with
    | some i => some (.agg ⟨(cs.drop off).take i.size⟩)
    | none => none
  | some false => cs[off]?
  | none => none
theorem aPart_sim {t : TypeId} {cs ds : List Value} {off : Nat} {v : Value} (hc : VRL ρ cs ds) (hr : aPart P t cs off = some v) (w : World) :
    ∃ v', (part t ⟨ds⟩ off).run P w = .ok v' w ∧ VR ρ v v' := by
  unfold aPart at hr
  split at hr
  · rename_i ht
    split at hr <;> cases hr
    rename_i i hi
    refine ⟨.agg ⟨(ds.drop off).take i.size⟩, ?_, by simp only [VR]; exact ⟨_, (hc.drop off).take _, rfl⟩⟩
    simp only [part, Sem.run_bind, run_isAgg ht, Result.andThen_ok, if_true, run_sizeOf hi, Sem.run_pure]
    rw [extract_list]; simp
  · rename_i ht
    obtain ⟨y, hy, hv⟩ := hc.get hr
    refine ⟨y, ?_, hv⟩
    simp only [part, Sem.run_bind, run_isAgg ht, Result.andThen_ok, Bool.false_eq_true, if_false]
    simp [hy]
  · cases hr
theorem VR.agg_inv {xs : Array Value} {y : Value} (h : VR ρ (.agg xs) y) : ∃ ys, y = .agg ⟨ys⟩ ∧ VRL ρ xs.toList ys := by
  obtain ⟨xs⟩ := xs; simp only [VR] at h; obtain ⟨ys, h1, rfl⟩ := h; exact ⟨ys, rfl, h1⟩
theorem VR.tuple_inv {xs : Array Value} {y : Value} (h : VR ρ (.tuple xs) y) : ∃ ys, y = .tuple ⟨ys⟩ ∧ VRL ρ xs.toList ys := by
  obtain ⟨xs⟩ := xs; simp only [VR] at h; obtain ⟨ys, h1, rfl⟩ := h; exact ⟨ys, rfl, h1⟩
theorem VR.int_inv {k : IntKind} {n : Int} {y : Value} (h : VR ρ (.int k n) y) : y = .int k n := by simpa only [VR] using h
theorem VR.bool_inv {b : Bool} {y : Value} (h : VR ρ (.bool b) y) : y = .bool b := by simpa only [VR] using h
theorem VR.string_inv {b : ByteArray} {y : Value} (h : VR ρ (.string b) y) : y = .string b := by simpa only [VR] using h

def aField (P : Program) (t : TypeId) (x : Value) (f : Nat) : Option Value :=
  match P.underlying t, x with
  | some (.struct fields), .agg cs => match fields[f]? with
    | some d => aPart P d.type cs.toList d.offset
    | none => none
  | _, _ => none
theorem aField_sim {t : TypeId} {x x' v : Value} {f : Nat} (hx : VR ρ x x') (hr : aField P t x f = some v) (w : World) : ∃ v', (Instr.field t x' f).run P w = .ok v' w ∧ VR ρ v v' := by
  unfold aField at hr
  split at hr <;> try cases hr
  rename_i fields cs hu
  split at hr <;> try cases hr
  rename_i d hd
  obtain ⟨ys, rfl, hl⟩ := hx.agg_inv
  obtain ⟨v', s1, s2⟩ := aPart_sim hl hr w
  refine ⟨v', ?_, s2⟩
  simp only [Instr.field, Sem.run_bind, run_underlying hu, Result.andThen_ok, hd, asAgg, Sem.run_pure, s1]

/-- at an index: a string's byte, an array's element. -/
def aIndex (P : Program) (t : TypeId) (x i : Value) : Option Value :=
  match P.underlying t, x, i with
  | some (.array len e), .agg cs, .int _ n => if 0 ≤ n ∧ n < len then match P.info? e with
      | some d => aPart P e cs.toList (n.toNat * d.size)
      | none => none else none
  | some .string, .string s, .int _ n => if 0 ≤ n then (s.data.toList[n.toNat]?).map fun b => .int .u8 b.toNat else none
  | _, _, _ => none
theorem aIndex_sim {t : TypeId} {x x' i i' v : Value} (hx : VR ρ x x') (hi : VR ρ i i') (hr : aIndex P t x i = some v) (w : World) : ∃ v', (Instr.index t x' i').run P w = .ok v' w ∧ VR ρ v v' := by
  unfold aIndex at hr
  split at hr <;> try cases hr
  · rename_i len e cs k n hu
    split at hr <;> try cases hr
    rename_i hn
    split at hr <;> try cases hr
    rename_i d hd
    obtain ⟨ys, rfl, hl⟩ := hx.agg_inv
    cases hi.int_inv
    obtain ⟨v', s1, s2⟩ := aPart_sim hl hr w
    refine ⟨v', ?_, s2⟩
    simp only [Instr.index, Sem.run_bind, asIntOf, Sem.run_pure, Result.andThen_ok, run_underlying hu, hn, if_true, and_self, run_sizeOf hd, s1]
  · rename_i s k n hu
    split at hr <;> try cases hr
    rename_i hn
    cases hx.string_inv; cases hi.int_inv
    simp only [Option.map_eq_some_iff] at hr
    obtain ⟨b, hb, rfl⟩ := hr
    refine ⟨_, ?_, by simp only [VR]; rfl⟩
    have hsb : s[n.toNat]? = some b := by
      have hlt : n.toNat < s.size := by simpa using (List.getElem?_eq_some_iff.1 hb).1
      rw [getElem?_pos s n.toNat hlt]
      obtain ⟨_, h2⟩ := List.getElem?_eq_some_iff.1 hb
      exact congrArg some h2
    simp only [Instr.index, Sem.run_bind, asIntOf, Sem.run_pure, Result.andThen_ok, run_underlying hu, hn, if_true, hsb]

/-- a part written over. -/
def aFill (place : Nat → Option (Nat × Nat)) (cells : List Value) : List (Nat × Value) → Option (List Value)
  | [] => some cells
  | (i, v) :: rest => match place i with
    | none => none
    | some (off, size) => if v.cells.size ≠ size ∨ off + size > cells.length then none else aFill place (cells.take off ++ v.cells.toList ++ cells.drop (off + size)) rest
theorem foldl_set (vs : List Value) : ∀ (off : Nat) (cs : Array Value) (k : Nat), off + k + vs.length ≤ cs.size →
    ((vs.zipIdx k).foldl (fun cs (x : Value × Nat) => cs.setIfInBounds (off + x.2) x.1) cs).toList = cs.toList.take (off + k) ++ vs ++ cs.toList.drop (off + k + vs.length) := by
  induction vs with
  | nil => intro off cs k _; simp
  | cons v vs ih =>
    intro off cs k h
    simp only [List.length_cons] at h
    rw [List.zipIdx_cons, List.foldl_cons, ih off _ (k + 1) (by simp; omega)]
    simp only [Array.toList_setIfInBounds, List.length_cons]
    exact set_list v vs (by simp; omega)
theorem aFill_sim (place : Nat → Option (Nat × Nat)) : ∀ {ps qs : List (Nat × Value)} {cells ds : List Value} {r : List Value}, ps.map (·.1) = qs.map (·.1) → VRL ρ (ps.map (·.2)) (qs.map (·.2)) → VRL ρ cells ds →
    aFill place cells ps = some r → ∃ r', Instr.fill place ⟨ds⟩ qs = some ⟨r'⟩ ∧ VRL ρ r r'
  | [], qs, cells, ds, r, h1, h2, h3, hr => by
    have : qs = [] := by simpa using h1.symm
    subst this
    simp only [aFill, Option.some.injEq] at hr; subst hr
    exact ⟨ds, rfl, h3⟩
  | (i, v) :: ps, [], _, _, _, h1, _, _, _ => by simp at h1
  | (i, v) :: ps, (j, u) :: qs, cells, ds, r, h1, h2, h3, hr => by
    simp only [List.map_cons, List.cons.injEq] at h1
    obtain ⟨rfl, h1⟩ := h1
    simp only [List.map_cons, VRL, List.cons.injEq] at h2
    obtain ⟨y, ys, hv, h2, rfl, rfl⟩ := h2
    simp only [aFill] at hr
    split at hr
    · cases hr
    · rename_i off size hp
      split at hr
      · cases hr
      · rename_i hc
        have hc : v.cells.size = size ∧ off + size ≤ cells.length := by
          rw [not_or] at hc; exact ⟨Classical.not_not.1 hc.1, by omega⟩
        have hsz : u.cells.size = v.cells.size := hv.cells_size
        have hl := h3.length
        have hspl := h3.splice off hv.cells
        have e2 : v.cells.toList.length = size := by simpa using hc.1
        rw [e2] at hspl
        obtain ⟨r', s1, s2⟩ := aFill_sim place h1 h2 hspl hr
        refine ⟨r', ?_, s2⟩
        simp only [Instr.fill, hp]
        rw [if_neg (by simp; omega)]
        have hz : Array.foldl (fun cs (x : Value × Nat) => match x with | (c, j) => cs.setIfInBounds (off + j) c) (⟨ds⟩ : Array Value) u.cells.zipIdx = ⟨ds.take off ++ u.cells.toList ++ ds.drop (off + size)⟩ := by
          rw [← Array.foldl_toList, Array.toList_zipIdx]
          apply Array.toList_inj.1
          have := foldl_set u.cells.toList off ⟨ds⟩ 0 (by simp; omega)
          simp only [Nat.add_zero] at this
          rw [show u.cells.toList.length = size by simp; omega] at this
          exact this
        rw [hz]; exact s1
end Go.Mt
/- Abstract operations, part 3: wholes out of parts, addresses, slices. -/
namespace Go.Mt
variable {P : Program} {w0 : Base} {w w' : World} {ρ : Ren} {H : AH}

def aPlaces (P : Program) (fields : Array Field) (i : Nat) : Option (Nat × Nat) :=
  match fields[i]? with
  | some f => match P.info? f.type with
    | some d => some (f.offset, d.size)
    | none => none
  | none => none
def sizesKnown (P : Program) (fields : Array Field) : Bool := fields.toList.all fun f => (P.info? f.type).isSome
def aBuild (P : Program) (t : TypeId) (parts : List (Nat × Value)) : Option Value :=
  match P.info? t with
  | some d => match d.zero with
    | some z => if closed z then (match P.underlying t with
      | some (.struct fields) => if sizesKnown P fields then (aFill (aPlaces P fields) z.cells.toList parts).map fun cs => .agg ⟨cs⟩ else none
      | some (.array _ e) => match P.info? e with
        | some d => (aFill (fun i => some (i * d.size, d.size)) z.cells.toList parts).map fun cs => .agg ⟨cs⟩
        | none => none
      | _ => none) else none
    | none => none
  | none => none

theorem run_mapM_places (w : World) : ∀ (fs : List Field), (fs.all fun f => (P.info? f.type).isSome) = true → ∀ acc : List (Nat × Nat),
    ∃ l, (List.mapM.loop (fun f : Field => (do pure (f.offset, ← sizeOf f.type) : Sem (Nat × Nat))) fs acc).run P w = .ok l w ∧ ∀ i, l[i]? = if i < acc.length then acc.reverse[i]? else (match fs[i - acc.length]? with
      | some f => match P.info? f.type with
        | some d => some (f.offset, d.size)
        | none => none
      | none => none)
  | [], _, acc => ⟨acc.reverse, by simp [List.mapM.loop], fun i => by
      by_cases h : i < acc.length
      · simp [h]
      · simp [h]⟩
  | f :: fs, h, acc => by
    simp only [List.all_cons, Bool.and_eq_true] at h
    obtain ⟨d, hd⟩ := Option.isSome_iff_exists.1 h.1
    obtain ⟨l, h1, h2⟩ := run_mapM_places w fs h.2 ((f.offset, d.size) :: acc)
    refine ⟨l, ?_, fun i => ?_⟩
    · simp only [List.mapM.loop, Sem.run_bind, run_sizeOf hd, Result.andThen_ok, Sem.run_pure]; exact h1
    · rw [h2 i]
      by_cases hi : i < acc.length
      · simp [hi, Nat.lt_succ_of_lt hi]
      · by_cases hi2 : i = acc.length
        · subst hi2; simp [hd]
        · rw [if_neg (by simp; omega), if_neg hi]
          simp only [List.length_cons]
          rw [show i - acc.length = (i - (acc.length + 1)) + 1 by omega]
          simp
theorem run_places (w : World) (fields : Array Field) (h : sizesKnown P fields = true) :
    ∃ a : Array (Nat × Nat), (fields.mapM fun f => (do pure (f.offset, ← sizeOf f.type) : Sem (Nat × Nat))).run P w = .ok a w ∧ (a[·]?) = aPlaces P fields := by
  obtain ⟨l, h1, h2⟩ := run_mapM_places (P := P) w fields.toList h []
  refine ⟨⟨l⟩, ?_, ?_⟩
  · rw [Array.mapM_eq_mapM_toList]
    show (Sem.run P ((fun l => (⟨l⟩ : Array _)) <$> List.mapM.loop _ _ []) w) = _
    rw [Sem.run_map, h1]; rfl
  · funext i
    have := h2 i
    simp only [List.length_nil, Nat.not_lt_zero, if_false, Nat.sub_zero] at this
    simpa [aPlaces] using this

theorem aBuild_sim {t : TypeId} {ps qs : List (Nat × Value)} {v : Value} (h1 : ps.map (·.1) = qs.map (·.1)) (h2 : VRL ρ (ps.map (·.2)) (qs.map (·.2))) (hr : aBuild P t ps = some v) (w : World) :
    ∃ v', (Instr.build t ⟨qs⟩).run P w = .ok v' w ∧ VR ρ v v' := by
  unfold aBuild at hr
  split at hr <;> try cases hr
  rename_i d hd
  split at hr <;> try cases hr
  rename_i z hz
  split at hr <;> try cases hr
  rename_i hc
  have hzz := (VR.of_closed ρ hc).cells
  split at hr
  · rename_i fields hu
    split at hr <;> try cases hr
    rename_i hk
    rw [Option.map_eq_some_iff] at hr
    obtain ⟨cs, hf, rfl⟩ := hr
    obtain ⟨a, ha1, ha2⟩ := run_places (P := P) w fields hk
    obtain ⟨r', s1, s2⟩ := aFill_sim (aPlaces P fields) h1 h2 hzz hf
    refine ⟨.agg ⟨r'⟩, ?_, by simp only [VR]; exact ⟨_, s2, rfl⟩⟩
    simp only [Instr.build, Sem.run_bind, run_zeroValue hd hz, Result.andThen_ok, run_underlying hu, ha1, ha2]
    rw [show z.cells = ⟨z.cells.toList⟩ from rfl, s1]; rfl
  · rename_i n e hu
    split at hr <;> try cases hr
    rename_i d' hd'
    rw [Option.map_eq_some_iff] at hr
    obtain ⟨cs, hf, rfl⟩ := hr
    obtain ⟨r', s1, s2⟩ := aFill_sim _ h1 h2 hzz hf
    refine ⟨.agg ⟨r'⟩, ?_, by simp only [VR]; exact ⟨_, s2, rfl⟩⟩
    simp only [Instr.build, Sem.run_bind, run_zeroValue hd hz, Result.andThen_ok, run_underlying hu, run_sizeOf hd']
    rw [show z.cells = ⟨z.cells.toList⟩ from rfl, s1]; rfl
  · cases hr

/-- n elements' zero cells. -/
def zeros (z : List Value) (n : Nat) : List Value := (List.replicate n z).flatten
theorem zeros_length (z : List Value) (n : Nat) : (zeros z n).length = n * z.length := by simp [zeros]
theorem zeros_get (z : List Value) (n i : Nat) (h : i < n * z.length) : (zeros z n)[i]? = z[i % z.length]? := by
  induction n generalizing i with
  | zero => simp at h
  | succ n ih =>
    simp only [zeros, List.replicate_succ, List.flatten_cons]
    by_cases hi : i < z.length
    · rw [List.getElem?_append_left hi, Nat.mod_eq_of_lt hi]
    · rw [List.getElem?_append_right (by omega)]
      have := ih (i - z.length) (by rw [Nat.succ_mul] at h; omega)
      simp only [zeros] at this
      rw [this, ← Nat.mod_eq_sub_mod (by omega)]
theorem range_map_zeros (z : Array Value) (n : Nat) : (Array.range (n * z.size)).map (fun i => z[i % z.size]!) = ⟨zeros z.toList n⟩ := by
  apply Array.toList_inj.1
  apply List.ext_getElem?
  intro i
  by_cases hi : i < n * z.size
  · have hz : 0 < z.size := Nat.pos_of_ne_zero fun h => by rw [h] at hi; simp at hi
    have hm : i % z.size < z.size := Nat.mod_lt _ hz
    rw [zeros_get _ _ _ (by simpa using hi)]
    simp [hi, hm, Nat.mod_lt _ hz]
  · rw [List.getElem?_eq_none (by simp; omega), List.getElem?_eq_none (by rw [zeros_length]; simp; omega)]
theorem VRL.zeros {z z' : List Value} (n : Nat) (h : VRL ρ z z') : VRL ρ (zeros z n) (Mt.zeros z' n) := by
  induction n with
  | zero => simp [Mt.zeros, VRL]
  | succ n ih => simp only [Mt.zeros, List.replicate_succ, List.flatten_cons] at *; exact h.append ih

theorem VR.slice_known {b o n c : Nat} {l : Loc} (h : ρ b = some l) (hn : n ≤ c) : VR ρ (.slice (some ⟨b, o, none⟩) n (c + 1)) (.slice (some ⟨l.blk, l.base + o, none⟩) n c) := by
  simp only [VR]; exact ⟨_, _, ⟨l, h, rfl, rfl, rfl, fun h => by omega, fun _ => ⟨rfl, hn, fun _ => rfl⟩⟩, rfl⟩

/-- a type's size and its zero cells. -/
def aZero (P : Program) (e : TypeId) : Option (Nat × List Value) :=
  match P.info? e with
  | some d => match d.zero with
    | some z => if closed z ∧ z.cells.size = d.size then some (d.size, z.cells.toList) else none
    | none => none
  | none => none
noncomputable def aBuildSlice (P : Program) (H : AH) (t : TypeId) (len : Nat) (parts : List (Nat × Value)) : OV :=
  match P.underlying t with
  | some (.slice e) => match aZero P e with
    | some (s, z) => if len * s ≤ 16777216 then (match aFill (fun i => some (i * s, s)) (zeros z len) parts with
        | some cs => some (.slice (some ⟨H.next, 0, none⟩) len (len + 1), H.new (.arr cs e false))
        | none => none) else none
    | none => none
  | _ => none
theorem aZero_spec {e : TypeId} {s : Nat} {z : List Value} (h : aZero P e = some (s, z)) : ∃ d zv, P.info? e = some d ∧ d.zero = some zv ∧ d.size = s ∧ zv.cells = ⟨z⟩ ∧ z.length = s ∧ VRL ρ z z := by
  unfold aZero at h
  split at h <;> try cases h
  rename_i d hd
  split at h <;> try cases h
  rename_i zv hz
  split at h <;> cases h
  rename_i hc
  exact ⟨d, zv, hd, hz, rfl, rfl, by simpa using hc.2, (VR.of_closed ρ hc.1).cells⟩
theorem aBuildSlice_sim (h : HR P w0 ρ H w) {t : TypeId} {len : Nat} {ps qs : List (Nat × Value)} {r : Value × AH} (h1 : ps.map (·.1) = qs.map (·.1)) (h2 : VRL ρ (ps.map (·.2)) (qs.map (·.2)))
    (hr : aBuildSlice P H t len ps = some r) : SV P w0 ρ (Instr.buildSlice t len ⟨qs⟩) w r := by
  unfold aBuildSlice at hr
  split at hr <;> try cases hr
  rename_i e hu
  split at hr <;> try cases hr
  rename_i s z hz
  obtain ⟨d, zv, hd, hzv, hs, hzc, hzl, hzr⟩ := aZero_spec (ρ := ρ) hz
  split at hr <;> try cases hr
  rename_i hlim
  split at hr <;> cases hr
  rename_i cs hf
  obtain ⟨r', s1, s2⟩ := aFill_sim _ h1 h2 (hzr.zeros len) hf
  obtain ⟨w', l, q1, qb, ql, _, hle, q2⟩ := newRow_sim h hd s2 false
  refine ⟨_, w', _, ?_, hle, q2, VR.slice_known (Ren.upd_same _ _ _) (Nat.le_refl _)⟩
  simp only [Instr.buildSlice, Sem.run_bind, run_underlying hu, Result.andThen_ok, run_sizeOf hd, hs]
  rw [if_neg (by omega)]
  by_cases h0 : len * s = 0
  · have hz0 : zeros z len = [] := List.eq_nil_of_length_eq_zero (by rw [zeros_length, hzl, h0])
    rw [hz0] at s1
    simp only [h0, if_true, Sem.run_bind, Sem.run_pure, Result.andThen_ok, Array.range_zero', Array.map_empty]
    rw [show (#[] : Array Value) = ⟨[]⟩ from rfl, s1]
    simp only [Sem.run_bind, q1, Result.andThen_ok, Sem.run_pure]
    simp [qb]
  · have e2 := range_map_zeros ⟨z⟩ len
    simp only [List.size_toArray, hzl] at e2
    simp only [h0, if_false, Sem.run_bind, Sem.run_pure, Result.andThen_ok, run_zeroValue hd hzv, hzc, List.size_toArray, hzl, e2, s1, q1]
    simp [qb]

noncomputable def aMakeSlice (P : Program) (H : AH) (t : TypeId) (len cap : Value) : OV :=
  match P.underlying t, len, cap with
  | some (.slice e), .int _ l, .int _ c => match P.info? e, aZero P e with
    | some d, some (_, z) => if 0 ≤ l ∧ l ≤ c ∧ c < 9223372036854775808 ∧ d.bytes * c ≤ 281474976710656 then
        some (.slice (some ⟨H.next, 0, none⟩) l.toNat (c.toNat + 1), H.new (.arr (zeros z c.toNat) e false)) else none
    | _, _ => none
  | _, _, _ => none
theorem wrap_id {n : Int} (h : 0 ≤ n) (h2 : n < 9223372036854775808) : IntKind.i64.wrap n = n := by
  simp [IntKind.wrap, IntKind.signed, IntKind.bits]; omega
theorem aMakeSlice_sim (h : HR P w0 ρ H w) {t : TypeId} {len len' cap cap' : Value} {r : Value × AH} (hl : VR ρ len len') (hc : VR ρ cap cap')
    (hr : aMakeSlice P H t len cap = some r) : SV P w0 ρ (Instr.makeSlice t len' cap') w r := by
  unfold aMakeSlice at hr
  split at hr <;> try cases hr
  rename_i e k1 l k2 c hu
  cases hl.int_inv; cases hc.int_inv
  split at hr <;> try cases hr
  rename_i d s z hd hz
  split at hr <;> cases hr
  rename_i hb
  obtain ⟨b1, b2, b3, b4⟩ := hb
  obtain ⟨d', zv, hd', hzv, hs, hzc, hzl, hzr⟩ := aZero_spec (ρ := ρ) hz
  rw [hd] at hd'; cases hd'
  obtain ⟨w', lo, q1, qb, ql, _, hle, q2⟩ := newRow_sim h hd (hzr.zeros c.toNat) false
  refine ⟨_, w', _, ?_, hle, q2, VR.slice_known (Ren.upd_same _ _ _) (by omega)⟩
  have t1 : (decide (c < 0) || decide ((d.bytes : Int) * c > 2 ^ 48)) = false := by
    simp only [Bool.or_eq_false_iff, decide_eq_false_iff_not]; exact ⟨by omega, by show ¬ (_ > _); simp; omega⟩
  simp only [Instr.makeSlice, Sem.run_bind, run_underlying hu, Result.andThen_ok, asInt, asIntOf, Sem.run_pure, run_typeInfo hd, wrap_id b1 (by omega), wrap_id (show 0 ≤ c by omega) b3]
  rw [t1]
  have t2 : decide (l < 0) = false := by simp; omega
  have t3 : decide (l > c) = false := by simp; omega
  simp only [t2, t3, Bool.or_false, Bool.false_eq_true, if_false, Sem.run_bind, run_askRoom, run_sizeOf hd, Result.andThen_ok, hs]
  by_cases h0 : c.toNat * s = 0
  · have hz0 : zeros z c.toNat = [] := List.eq_nil_of_length_eq_zero (by rw [zeros_length, hzl, h0])
    rw [hz0] at q1
    simp only [h0, if_true, Sem.run_bind, Sem.run_pure, Result.andThen_ok, Array.range_zero', Array.map_empty]
    rw [show (#[] : Array Value) = ⟨[]⟩ from rfl, q1]
    simp [qb]
  · have e2 := range_map_zeros ⟨z⟩ c.toNat
    simp only [List.size_toArray, hzl] at e2
    simp only [h0, if_false, Sem.run_bind, Sem.run_pure, Result.andThen_ok, run_zeroValue hd hzv, hzc, List.size_toArray, hzl, e2, q1]
    simp [qb]
end Go.Mt
/- Abstract operations, part 4: addresses of parts, slices of slices, strings and bytes, append, copy, len. -/
namespace Go.Mt
variable {P : Program} {w0 : Base} {w w' : World} {ρ : Ren} {H : AH}

theorem VR.mk_addr {b o : Nat} {l : Loc} (h : ρ b = some l) : VR ρ (.pointer (some ⟨b, o, none⟩)) (.pointer (some ⟨l.blk, l.base + o, none⟩)) := VR.mk_ptr h

def aFieldAddr (P : Program) (t : TypeId) (x : Value) (f : Nat) : Option Value :=
  match P.underlying t, x with
  | some (.struct fields), .pointer (some a) => match fields[f]? with
    | some d => match P.info? d.type with
      | some i => if i.size ≠ 0 then some (.pointer (some ⟨a.block, a.off + d.offset, none⟩)) else none
      | none => none
    | none => none
  | _, _ => none
theorem aFieldAddr_sim {t : TypeId} {x x' v : Value} {f : Nat} (hx : VR ρ x x') (hr : aFieldAddr P t x f = some v) (w : World) : ∃ v', (Instr.fieldAt t x' f).run P w = .ok v' w ∧ VR ρ v v' := by
  unfold aFieldAddr at hr
  split at hr <;> try cases hr
  rename_i fields a hu
  split at hr <;> try cases hr
  rename_i d hd
  split at hr <;> try cases hr
  rename_i i hi
  split at hr <;> cases hr
  rename_i hs
  obtain ⟨l, hl, _, rfl⟩ := hx.ptr_some
  refine ⟨_, ?_, VR.mk_addr hl⟩
  simp only [Instr.fieldAt, Sem.run_bind, run_underlying hu, Result.andThen_ok, hd, Instr.sureAddr, Sem.run_pure, fieldPlace, run_sizeOf hi]
  rw [if_neg hs]
  simp only [Sem.run_pure, Result.andThen_ok, addr_add, Nat.add_assoc]

def aIndexAddr (P : Program) (t : TypeId) (x i : Value) : Option Value :=
  match P.underlying t, x, i with
  | some (.array len e), .pointer (some a), .int _ n => match P.info? e with
    | some d => if 0 ≤ n ∧ n < len then some (.pointer (some ⟨a.block, a.off + n.toNat * d.size, none⟩)) else none
    | none => none
  | some (.slice e), .slice (some a) len _, .int _ n => match P.info? e with
    | some d => if 0 ≤ n ∧ n < len then some (.pointer (some ⟨a.block, a.off + n.toNat * d.size, none⟩)) else none
    | none => none
  | _, _, _ => none
theorem VR.slice_inv {a : Addr} {n k : Nat} {y : Value} (h : VR ρ (.slice (some a) n k) y) : ∃ b c, SlR ρ a b n k c ∧ y = .slice (some b) n c := by simpa only [VR] using h
theorem SlR.addr {a b : Addr} {n k c : Nat} (h : SlR ρ a b n k c) (hn : n ≠ 0) : ∃ l, ρ a.block = some l ∧ b = ⟨l.blk, l.base + a.off, none⟩ := by
  obtain ⟨l, h1, _, h3, h4, h5, h6⟩ := h
  refine ⟨l, h1, ?_⟩
  obtain ⟨bb, bo, bs⟩ := b
  simp only at h3 h4
  subst h3; subst h4
  have : bo = l.base + a.off := by
    by_cases hk : k = 0
    · exact (h5 hk).2.2 hn
    · exact (h6 hk).2.2 (by have := (h6 hk).2.1; omega)
  rw [this]
theorem aIndexAddr_sim {t : TypeId} {x x' i i' v : Value} (hx : VR ρ x x') (hi : VR ρ i i') (hr : aIndexAddr P t x i = some v) (w : World) : ∃ v', (Instr.indexAt t x' i').run P w = .ok v' w ∧ VR ρ v v' := by
  unfold aIndexAddr at hr
  split at hr <;> try cases hr
  · rename_i len e a k n hu
    split at hr <;> try cases hr
    rename_i d hd
    split at hr <;> cases hr
    rename_i hn
    obtain ⟨l, hl, _, rfl⟩ := hx.ptr_some
    cases hi.int_inv
    refine ⟨_, ?_, VR.mk_addr hl⟩
    simp only [Instr.indexAt, Sem.run_bind, asIntOf, Sem.run_pure, Result.andThen_ok, run_underlying hu, Instr.sureAddr, hn, and_self, if_true, run_sizeOf hd, addr_add, Nat.add_assoc]
  · rename_i e a len c k n hu
    split at hr <;> try cases hr
    rename_i d hd
    split at hr <;> cases hr
    rename_i hn
    obtain ⟨b, c', hs, rfl⟩ := hx.slice_inv
    obtain ⟨l, hl, rfl⟩ := hs.addr (by omega)
    cases hi.int_inv
    refine ⟨_, ?_, VR.mk_addr hl⟩
    simp only [Instr.indexAt, Sem.run_bind, asIntOf, Sem.run_pure, Result.andThen_ok, run_underlying hu, Instr.sureAddr, hn, and_self, if_true, run_sizeOf hd, addr_add, Nat.add_assoc]

/-! slices -/
def optInt : Option Value → Option (Option Int)
  | none => some none
  | some (.int _ n) => some (some n)
  | _ => none
/-- the bounds of a slice expression: low, high, and the new capacity's end if it is told. -/
def aBounds (len : Nat) (capAtLeast : Nat) (lo hi mx : Option Int) : Option (Nat × Nat × Option Nat) :=
  match mx with
  | some m => match hi with
    | some h => if 0 ≤ m ∧ m ≤ capAtLeast ∧ 0 ≤ h ∧ h ≤ m ∧ 0 ≤ lo.getD 0 ∧ lo.getD 0 ≤ h then some ((lo.getD 0).toNat, h.toNat, some m.toNat) else none
    | none => none
  | none => if 0 ≤ hi.getD len ∧ hi.getD len ≤ capAtLeast ∧ 0 ≤ lo.getD 0 ∧ lo.getD 0 ≤ hi.getD len then some ((lo.getD 0).toNat, (hi.getD len).toNat, none) else none
theorem bounds_sim {isSlice : Bool} {len cap al : Nat} {lo hi mx : Option Value} {l h : Nat} {m : Option Nat} {lo1 hi1 mx1 : Option Int}
    (h1 : optInt lo = some lo1) (h2 : optInt hi = some hi1) (h3 : optInt mx = some mx1) (hal : al ≤ cap)
    (hr : aBounds len al lo1 hi1 mx1 = some (l, h, m)) (w : World) :
    (Instr.sliceBounds isSlice len cap lo hi mx).run P w = .ok (l, h, m.getD cap) w ∧ l ≤ h ∧ h ≤ m.getD cap ∧ m.getD cap ≤ cap ∧ (m = none → h ≤ max al len) ∧ (∀ x, m = some x → x ≤ al) := by
  have hb : ∀ {k : IntKind} {n : Int} {y : Nat} {c : BoundsCode}, 0 ≤ n → n ≤ y → (Instr.sliceBound (.int k n) y c).run P w = .ok n.toNat w := by
    intro k n y c h0 hy
    simp only [Instr.sliceBound, Sem.run_bind, asIntOf, Sem.run_pure, Result.andThen_ok, h0, hy, and_self, if_true]
  unfold aBounds at hr
  cases mx with
  | some mv =>
    cases mv <;> simp [optInt] at h3
    subst h3
    rename_i km m1
    cases hi with
    | none => simp [optInt] at h2; subst h2; simp at hr
    | some hv =>
      cases hv <;> simp [optInt] at h2
      subst h2
      rename_i kh hh
      simp only at hr
      split at hr <;> cases hr
      rename_i hc
      obtain ⟨c1, c2, c3, c4, c5, c6⟩ := hc
      refine ⟨?_, by omega, by simp; omega, by simp; omega, by simp, by intro x hx; cases hx; omega⟩
      simp only [Instr.sliceBounds, Sem.run_bind, hb c1 (show m1 ≤ (cap : Int) by omega), Result.andThen_ok, hb c3 (show hh ≤ ((m1.toNat : Nat) : Int) by omega)]
      cases lo with
      | none => simp [optInt] at h1; subst h1; simp
      | some lv =>
        cases lv <;> simp [optInt] at h1
        subst h1
        simp only [Option.getD_some] at c5 c6
        simp only [Sem.run_bind, hb c5 (show _ ≤ ((hh.toNat : Nat) : Int) by omega), Result.andThen_ok, Sem.run_pure, Option.getD_some]
  | none =>
    simp [optInt] at h3; subst h3
    simp only at hr
    split at hr <;> cases hr
    rename_i hc
    obtain ⟨c1, c2, c3, c4⟩ := hc
    refine ⟨?_, by omega, by simp; omega, by simp, by intro _; omega, by simp⟩
    simp only [Instr.sliceBounds, Sem.run_bind, Sem.run_pure, Result.andThen_ok]
    cases hi with
    | none =>
      simp [optInt] at h2; subst h2
      simp only [Option.getD_none] at c1 c2 c3 c4 ⊢
      cases lo with
      | none => simp [optInt] at h1; subst h1; simp
      | some lv =>
        cases lv <;> simp [optInt] at h1
        subst h1
        simp only [Option.getD_some] at c3 c4 ⊢
        simp only [Sem.run_bind, Sem.run_pure, Result.andThen_ok, hb c3 c4, Int.toNat_natCast]
    | some hv =>
      cases hv <;> simp [optInt] at h2
      subst h2
      rename_i kh hh
      simp only [Option.getD_some] at c1 c2 c4 ⊢
      cases lo with
      | none =>
        simp [optInt] at h1; subst h1
        simp only [Sem.run_bind, Sem.run_pure, Result.andThen_ok, hb c1 (show hh ≤ (cap : Int) by omega), Option.getD_none, Int.toNat_zero]
      | some lv =>
        cases lv <;> simp [optInt] at h1
        subst h1
        simp only [Option.getD_some] at c3 c4 ⊢
        simp only [Sem.run_bind, Sem.run_pure, Result.andThen_ok, hb c1 (show hh ≤ (cap : Int) by omega), hb c3 (show _ ≤ ((hh.toNat : Nat) : Int) by omega), Option.getD_none]
end Go.Mt
/- Abstract operations, part 5: slice expressions, bytes and strings. -/
namespace Go.Mt
variable {P : Program} {w0 : Base} {w w' : World} {ρ : Ren} {H : AH}

/-- the cells of an element of a row that may be looked at. -/
noncomputable def unitOf (P : Program) (H : AH) (b : Nat) : Option Nat :=
  match H.get b with
  | some (.arr _ e _) => (P.info? e).map (·.size)
  | _ => none
theorem unitOf_spec (h : HR P w0 ρ H w) {b u : Nat} {l : Loc} (hl : ρ b = some l) (hu : unitOf P H b = some u) : l.unit = u := by
  unfold unitOf at hu
  split at hu <;> try cases hu
  rename_i c e ro hg
  obtain ⟨cs, e', fz, i, h1, h2, h3, h4, _⟩ := h.arr hl hg
  rw [h3] at hu; simp at hu; rw [h4, hu]

noncomputable def aSlice (P : Program) (H : AH) (t : TypeId) (x : Value) (lo hi mx : Option Value) : Option Value :=
  match optInt lo, optInt hi, optInt mx with
  | some lo, some hi, some mx =>
    match P.underlying t, x with
    | some .string, .string s => match mx, aBounds s.size s.size lo hi none with
      | none, some (l, h, _) => some (.string (s.extract l h))
      | _, _ => none
    | some (.array n e), .pointer (some a) => match P.info? e, aBounds n n lo hi mx with
      | some d, some (l, h, m) => some (.slice (some ⟨a.block, if m.getD n = l then a.off else a.off + l * d.size, none⟩) (h - l) (m.getD n - l + 1))
      | _, _ => none
    | some (.slice e), .slice none len k => match P.info? e, aBounds len 0 lo hi mx with
      | some _, some _ => some (.slice none 0 k)
      | _, _ => none
    | some (.slice e), .slice (some a) len k => match P.info? e, aBounds len (if k = 0 then len else k - 1) lo hi mx with
      | some d, some (l, h, m) =>
        if k ≠ 0 ∨ m.isSome then
          let c := m.getD (k - 1)
          some (.slice (some ⟨a.block, if c = l then a.off else a.off + l * d.size, none⟩) (h - l) (c - l + 1))
        else if l = 0 ∨ unitOf P H a.block = some d.size then some (.slice (some ⟨a.block, a.off + l * d.size, none⟩) (h - l) 0)
        else none
      | _, _ => none
    | _, _ => none
  | _, _, _ => none

theorem VR.slice_none_inv {n k : Nat} {y : Value} (h : VR ρ (.slice none n k) y) : n = 0 ∧ y = .slice none 0 0 := by simpa only [VR] using h
theorem VR.mk_slice {a b : Addr} {n k c : Nat} (h : SlR ρ a b n k c) : VR ρ (.slice (some a) n k) (.slice (some b) n c) := by
  simp only [VR]; exact ⟨b, c, h, rfl⟩

theorem aSlice_sim (h : HR P w0 ρ H w) {t : TypeId} {x x' v : Value} {lo hi mx lo' hi' mx' : Option Value} (hx : VR ρ x x') (h1 : lo' = lo) (h2 : hi' = hi) (h3 : mx' = mx)
    (hr : aSlice P H t x lo hi mx = some v) : ∃ v', (Instr.sliceAt t x' lo' hi' mx').run P w = .ok v' w ∧ VR ρ v v' := by
  subst h1; subst h2; subst h3
  unfold aSlice at hr
  split at hr <;> try cases hr
  rename_i lo1 hi1 mx1 e1 e2 e3
  split at hr <;> try cases hr
  · -- a string
    rename_i s hu
    split at hr <;> try cases hr
    rename_i lw hg m hb
    cases hx.string_inv
    have hmx : mx' = none := by
      cases mx' with
      | none => rfl
      | some v => cases v <;> simp [optInt] at e3
    subst hmx
    obtain ⟨s1, _⟩ := bounds_sim (P := P) (isSlice := false) e1 e2 (show optInt none = some none from rfl) (Nat.le_refl _) hb w
    refine ⟨_, ?_, by simp only [VR]; rfl⟩
    simp only [Instr.sliceAt, Sem.run_bind, run_underlying hu, Result.andThen_ok, Instr.slice, Option.isSome_none, Bool.false_eq_true, if_false, s1, Sem.run_pure]
  · -- an array
    rename_i n e a hu
    split at hr <;> try cases hr
    rename_i d lw hg m hd hb
    obtain ⟨l, hl, _, rfl⟩ := hx.ptr_some
    obtain ⟨s1, b1, b2, b3, _⟩ := bounds_sim (P := P) (isSlice := false) e1 e2 e3 (Nat.le_refl _) hb w
    refine ⟨.slice (some (if m.getD n = lw then ⟨l.blk, l.base + a.off, none⟩ else Addr.add ⟨l.blk, l.base + a.off, none⟩ (lw * d.size))) (hg - lw) (m.getD n - lw), ?_, VR.mk_slice ⟨l, hl, rfl, ?_, ?_, fun h => by omega, fun _ => ⟨rfl, by omega, fun hc => ?_⟩⟩⟩
    · simp only [Instr.sliceAt, Sem.run_bind, run_underlying hu, Result.andThen_ok, Instr.sureAddr, Sem.run_pure, s1, run_sizeOf hd]
    · split <;> simp [addr_add]
    · split <;> simp [addr_add]
    · rw [if_neg (by omega), if_neg (by omega), addr_add]; simp only; omega
  · -- a nil slice
    rename_i e len k hu
    split at hr <;> try cases hr
    rename_i d b hd hb
    obtain ⟨rfl, rfl⟩ := hx.slice_none_inv
    obtain ⟨lw, hg, m⟩ := b
    obtain ⟨s1, b1, b2, b3, b4, b5⟩ := bounds_sim (P := P) (isSlice := true) (cap := 0) e1 e2 e3 (Nat.le_refl _) hb w
    have h0 : lw = 0 ∧ hg = 0 ∧ m.getD 0 = 0 := by omega
    refine ⟨.slice none 0 0, ?_, by simp [VR]⟩
    simp only [Instr.sliceAt, Sem.run_bind, run_underlying hu, Result.andThen_ok, Instr.slice, s1, run_sizeOf hd, Sem.run_pure, h0.1, h0.2.1, h0.2.2]
    simp
  · -- a slice
    rename_i e a len k hu
    obtain ⟨b, cap, hs, rfl⟩ := hx.slice_inv
    obtain ⟨l, hl, hsp, hbb, hbs, hk0, hk1⟩ := hs
    split at hr <;> try cases hr
    rename_i d lw hg m hd hb
    have hal : (if k = 0 then len else k - 1) ≤ cap := by
      split
      · rename_i hk; exact (hk0 hk).1
      · rename_i hk; have := (hk1 hk).1; omega
    obtain ⟨s1, b1, b2, b3, b4, b5⟩ := bounds_sim (P := P) (isSlice := true) e1 e2 e3 hal hb w
    have hrun : (Instr.sliceAt t (.slice (some b) len cap) lo' hi' mx').run P w = .ok (.slice (if m.getD cap = lw then some b else some (b.add (lw * d.size))) (hg - lw) (m.getD cap - lw)) w := by
      simp only [Instr.sliceAt, Sem.run_bind, run_underlying hu, Result.andThen_ok, Instr.slice, s1, run_sizeOf hd, Sem.run_pure, Option.map_some]
    obtain ⟨bb, bo, bs⟩ := b
    simp only at hbb hbs hk0 hk1
    subst hbb; subst hbs
    split at hr
    · rename_i hkm
      cases hr
      have hc : m.getD (k - 1) = m.getD cap := by
        cases m with
        | some x => rfl
        | none =>
          have hk : k ≠ 0 := by rcases hkm with h | h; exact h; simp at h
          have := (hk1 hk).1
          simp; omega
      refine ⟨_, hrun, ?_⟩
      rw [hc]
      have hoff : m.getD cap - lw ≠ 0 → bo = l.base + a.off := by
        intro hne
        by_cases hk : k = 0
        · refine (hk0 hk).2.2 ?_
          cases m with
          | some x => have := b5 x rfl; rw [if_pos hk] at this; simp at hne; omega
          | none => rcases hkm with h | h; exact absurd hk h; simp at h
        · exact (hk1 hk).2.2 (by omega)
      by_cases he : m.getD cap = lw
      · rw [if_pos he, if_pos he]
        exact VR.mk_slice ⟨l, hl, rfl, rfl, rfl, fun h => by omega, fun _ => ⟨rfl, by omega, fun hc => by omega⟩⟩
      · rw [if_neg he, if_neg he, addr_add]
        exact VR.mk_slice ⟨l, hl, rfl, rfl, rfl, fun h => by omega, fun _ => ⟨rfl, by omega, fun hc => by simp only; have := hoff hc; omega⟩⟩
    · rename_i hkm
      rw [not_or] at hkm
      have hk : k = 0 := Classical.not_not.1 hkm.1
      have hm : m = none := by cases m with
        | none => rfl
        | some x => simp at hkm
      subst hm
      split at hr <;> cases hr
      rename_i hlu
      obtain ⟨q1, q2, q3⟩ := hk0 hk
      simp only [Option.getD_none] at hrun b2
      refine ⟨_, hrun, ?_⟩
      have hfit : bo + (if cap = lw then 0 else lw * d.size) + (cap - lw) * l.unit ≤ l.lim := by
        rcases hlu with h0 | h0
        · subst h0; simp; exact q2
        · have := unitOf_spec h hl h0
          rw [← this]
          split
          · rename_i e; rw [e]; simp; have : 0 ≤ cap * l.unit := Nat.zero_le _; omega
          · have : lw * l.unit + (cap - lw) * l.unit = cap * l.unit := by rw [← Nat.add_mul]; congr 1; omega
            omega
      by_cases he : cap = lw
      · rw [if_pos he] at hfit ⊢
        exact VR.mk_slice ⟨l, hl, rfl, rfl, rfl, fun _ => ⟨by omega, by simpa using hfit, fun hn => by omega⟩, fun h => absurd rfl h⟩
      · rw [if_neg he] at hfit ⊢
        rw [addr_add]
        exact VR.mk_slice ⟨l, hl, rfl, rfl, rfl, fun _ => ⟨by omega, hfit, fun hn => by simp only; have := q3 (by have := b4 rfl; rw [if_pos hk] at this; omega); omega⟩, fun h => absurd rfl h⟩

/-! cells that a slice (or a string) shows -/
def byteCells (s : ByteArray) : List Value := s.data.toList.map fun b => .int .u8 b.toNat
noncomputable def aCells (H : AH) (size n : Nat) (x : Value) : Option (List Value) :=
  match x with
  | .slice none _ _ => some []
  | .slice (some a) len _ => if n = 0 then some [] else if n ≤ len then (match H.get a.block with
    | some (.arr c _ _) => if a.off + n * size ≤ c.length then some ((c.drop a.off).take (n * size)) else none
    | _ => none) else none
  | .string s => some ((byteCells s).take n)
  | _ => none
def aLen (x : Value) : Option Nat :=
  match x with
  | .slice _ n _ => some n
  | .string s => some s.size
  | _ => none
theorem aLen_sim {x x' : Value} {n : Nat} (hx : VR ρ x x') (hr : aLen x = some n) (w : World) : (Builtin.lenOf x').run P w = .ok n w := by
  unfold aLen at hr
  split at hr <;> cases hr
  · rename_i a k
    cases a with
    | none => obtain ⟨rfl, rfl⟩ := hx.slice_none_inv; rfl
    | some a => obtain ⟨b, c, _, rfl⟩ := hx.slice_inv; rfl
  · cases hx.string_inv; rfl
theorem byteCells_closed (s : ByteArray) : closedL (byteCells s) = true := by
  unfold byteCells
  induction s.data.toList with
  | nil => rfl
  | cons b l ih => simp only [List.map_cons, closedL, closed, ih, Bool.and_self]
theorem aCells_sim (h : HR P w0 ρ H w) {size n : Nat} {x x' : Value} {cs : List Value} (hx : VR ρ x x') (hr : aCells H size n x = some cs) :
    ∃ ds : List Value, (Builtin.firstCells size n x').run P w = .ok ⟨ds⟩ w ∧ VRL ρ cs ds := by
  unfold aCells at hr
  split at hr <;> try cases hr
  · obtain ⟨_, rfl⟩ := hx.slice_none_inv
    exact ⟨[], rfl, by simp [VRL]⟩
  · rename_i a len k
    obtain ⟨b, c', hs, rfl⟩ := hx.slice_inv
    split at hr
    · cases hr; rename_i hn; subst hn
      refine ⟨[], ?_, by simp [VRL]⟩
      simp [Builtin.firstCells, loadCells, loadCellsFrom]
    · split at hr <;> try cases hr
      rename_i hn hle
      split at hr <;> try cases hr
      rename_i c e ro hg
      split at hr <;> cases hr
      rename_i hlen
      obtain ⟨l, hl, rfl⟩ := hs.addr (by omega)
      obtain ⟨cs, e', fz, i, h1, h2, h3, h4, h5, h6⟩ := h.arr hl hg
      rcases row_len h5 with hc | hc
      · subst hc
        have hz : n * size = 0 := by simp only [List.length_nil] at hlen; omega
        refine ⟨[], ?_, by simp [VRL]⟩
        simp [Builtin.firstCells, hz, loadCells, loadCellsFrom]
      · refine ⟨(cs.toList.drop (l.base + a.off)).take (n * size), ?_, ?_⟩
        · simp only [Builtin.firstCells]; rw [run_loadCells_at h1 (by omega)]
        · have := (h5.drop a.off).take (n * size)
          rwa [List.drop_take, List.drop_drop, List.take_take, Nat.min_eq_left (by omega)] at this
  · rename_i s
    cases hx.string_inv
    refine ⟨(byteCells s).take n, ?_, (VRL.of_closed ρ (byteCells_closed s)).take n⟩
    simp only [Builtin.firstCells, Sem.run_pure]
    congr 1
    apply Array.toList_inj.1
    simp only [byteCells, Array.toList_map, ByteArray.data_extract, Array.toList_extract, List.extract_eq_drop_take', List.drop_zero, List.map_take]
end Go.Mt
/- Abstract operations, part 6: append, copy, bytes and strings turned into one another. -/
namespace Go.Mt
variable {P : Program} {w0 : Base} {w w' : World} {ρ : Ren} {H : AH}

def isIntT (P : Program) (t : TypeId) : Bool :=
  match P.underlying t with
  | some (.int _) => true
  | _ => false
/-- the appended cells go behind the length into cells that are there. -/
noncomputable def aAppend (P : Program) (H : AH) (sType xType : TypeId) (s x : Value) : OV :=
  match P.underlying sType, aLen x with
  | some (.slice e), some n => match P.info? e, aZero P e, aCells H ((P.info? e).map (·.size) |>.getD 0) n x with
    | some d, some _, some new =>
      if isIntT P xType = true ∨ new.length ≠ n * d.size then none else
      match s with
      | .slice none len k => if n = 0 then some (.slice none len k, H)
          else if n * d.bytes ≤ 140737488355328 ∧ 0 < d.bytes then some (.slice (some ⟨H.next, 0, none⟩) n 0, H.new (.arr new e false)) else none
      | .slice (some a) len k =>
        if n = 0 then some (.slice (some a) len k, H)
        else if k ≠ 0 ∧ len + n ≤ k - 1 then (match H.get a.block with
          | some (.arr c e' false) => if a.off + (len + n) * d.size ≤ c.length ∧ new.all Value.oneCell' = true then
              some (.slice (some a) (len + n) k, H.set a.block (.arr (c.take (a.off + len * d.size) ++ new ++ c.drop (a.off + len * d.size + n * d.size)) e' false)) else none
          | _ => none)
        else if (len + n) * d.bytes ≤ 140737488355328 ∧ 0 < d.bytes then (match aCells H d.size len s with
          | some old =>
            if old.length ≠ len * d.size then none else if k ≠ 0 then some (.slice (some ⟨H.next, 0, none⟩) (len + n) 0, H.new (.arr (old ++ new) e false))
            else (match H.get a.block with
              | some (.arr _ e' false) => if (P.info? e').map (·.size) = some d.size ∧ new.all Value.oneCell' = true then
                  some (.slice (some ⟨H.next, 0, none⟩) (len + n) 0, (H.set a.block .dead).new (.arr (old ++ new) e false)) else none
              | _ => none)
          | none => none)
        else none
      | _ => none
    | _, _, _ => none
  | _, _ => none

theorem zeroCells_eq (z : List Value) (n : Nat) : Builtin.zeroCells ⟨z⟩ n = ⟨zeros z n⟩ := range_map_zeros ⟨z⟩ n

/-- a new row behind an append: its capacity is drawn. -/
theorem grow_sim (h : HR P w0 ρ H w) {e : TypeId} {d : TypeInfo} {s : Nat} {z : List Value} {zv : Value} (hd : P.info? e = some d) (hs : d.size = s) (hzc : zv.cells = ⟨z⟩) (hzl : z.length = s)
    {need newCap : Nat} {xs ys : List Value} (_hzv : d.zero = some zv) (hcap : need ≤ newCap) (hxy : VRL ρ xs ys) (hlen : xs.length = need * s) (q : World) (hq : q = { w with drawn := w.drawn + 1 }) :
    ∃ w' l, (newRow e ((⟨ys⟩ : Array Value) ++ Builtin.zeroCells zv.cells (newCap - need))).run P q = .ok ⟨l.blk, 0, none⟩ w' ∧ l.base = 0 ∧ ρ.le (ρ.upd H.next l) ∧
      HR P w0 (ρ.upd H.next l) (H.new (.arr xs e false)) w' ∧ SlR (ρ.upd H.next l) ⟨H.next, 0, none⟩ ⟨l.blk, 0, none⟩ need 0 newCap := by
  have hn : ρ H.next = none := h.dom _ (Nat.le_refl _)
  have hyl : ys.length = need * s := by rw [← hxy.length, hlen]
  have harr : ((⟨ys⟩ : Array Value) ++ Builtin.zeroCells zv.cells (newCap - need)) = ⟨ys ++ zeros z (newCap - need)⟩ := by
    rw [hzc, zeroCells_eq]; simp
  have htot : (ys ++ zeros z (newCap - need)).length = newCap * s := by
    rw [List.length_append, hyl, zeros_length, hzl, ← Nat.add_mul]; congr 1; omega
  rw [harr]
  refine ⟨{ q with heap := q.heap.push (.cells ⟨ys ++ zeros z (newCap - need)⟩ e) }, ⟨q.heap.size, 0, newCap * s, d.size⟩, rfl, rfl, ?_⟩
  have hqh : q.heap = w.heap := by rw [hq]
  have hnew := h.new (w' := { q with heap := q.heap.push (.cells ⟨ys ++ zeros z (newCap - need)⟩ e) }) (o := .cells ⟨ys ++ zeros z (newCap - need)⟩ e) (x := .arr xs e false) (l := ⟨q.heap.size, 0, newCap * s, d.size⟩)
    (by rw [hqh]) (by rw [hq]) (by rw [hq]) (by rw [hq]) (by rw [hqh]) (by
      refine ⟨⟨ys ++ zeros z (newCap - need)⟩, e, (0, 0), d, by simp, by simp only [List.size_toArray]; exact htot.symm, hd, rfl, ?_, fun _ => .inr rfl⟩
      simp only [List.drop_zero]
      rw [hxy.length, List.take_left']
      · exact hxy.mono (Ren.le_upd hn)
      · rfl)
  refine ⟨hnew.1, hnew.2, ⟨_, Ren.upd_same _ _ _, rfl, rfl, rfl, fun _ => ⟨hcap, by simp [hs], fun _ => by simp⟩, fun h => absurd rfl h⟩⟩

theorem append_in {sType xType type e : TypeId} {d : TypeInfo} {dx : TypeDesc} {base : Option Addr} {len cap n : Nat} {x' : Value} {ds : List Value} (hu : P.underlying sType = some (.slice e)) (hd : P.info? e = some d)
    (hdx : P.underlying xType = some dx) (hni : ∀ k, dx ≠ .int k) (hn : (Builtin.lenOf x').run P w = .ok n w) (hle : len + n ≤ cap)
    (hnew : (Builtin.firstCells d.size n x').run P w = .ok ⟨ds⟩ w) :
    (Builtin.append_ #[sType, xType] type #[.slice base len cap, x']).run P w =
      (match base with
        | some a => (do storeCells (a.add (len * d.size)) ds; pure (.slice base (len + n) cap) : Sem Value)
        | none => pure (.slice base (len + n) cap)).run P w := by
  unfold Builtin.append_
  simp only [List.getElem?_toArray, List.getElem?_cons_zero, List.getElem?_cons_succ, Sem.run_bind, run_underlying hu, Result.andThen_ok, run_sizeOf hd, run_underlying hdx, Sem.run_pure]
  cases dx <;> first
    | exact absurd rfl (hni _)
    | (simp only [Sem.run_bind, Bool.false_eq_true, if_false, hn, Result.andThen_ok, hle, if_true, Bool.not_false, hnew]; cases base <;> rfl)
theorem append_grow {sType xType type e : TypeId} {d : TypeInfo} {dx : TypeDesc} {zv : Value} {base : Option Addr} {len cap n : Nat} {x' : Value} {os ds : List Value} (hu : P.underlying sType = some (.slice e)) (hd : P.info? e = some d)
    (hdx : P.underlying xType = some dx) (hni : ∀ k, dx ≠ .int k) (hn : (Builtin.lenOf x').run P w = .ok n w) (hle : ¬ len + n ≤ cap) (hzv : d.zero = some zv)
    (hb : (len + n) * d.bytes ≤ 140737488355328) (hb0 : 0 < d.bytes)
    (ho : (Builtin.firstCells d.size len (.slice base len cap)).run P { w with drawn := w.drawn + 1 } = .ok ⟨os⟩ { w with drawn := w.drawn + 1 }) (hw : (Builtin.firstCells d.size n x').run P { w with drawn := w.drawn + 1 } = .ok ⟨ds⟩ { w with drawn := w.drawn + 1 }) :
    ∃ newCap, len + n ≤ newCap ∧ (Builtin.append_ #[sType, xType] type #[.slice base len cap, x']).run P w =
      ((newRow e ((⟨os ++ ds⟩ : Array Value) ++ Builtin.zeroCells zv.cells (newCap - (len + n)))).run P { w with drawn := w.drawn + 1 }).andThen fun a w' => .ok (.slice (some a) (len + n) newCap) w' := by
  refine ⟨(Question.appendCap (len + n) cap e).cut (w.tape w.drawn (.appendCap (len + n) cap e)), Nat.le_add_right _ _, ?_⟩
  have h48 : Builtin.nextslicecap (len + n) cap * d.bytes ≤ 281474976710656 := growslice_fits (by omega) hb
  have t1 : ¬ (((len + n : Nat) : Int) > IntKind.i64.max ∧ (False ∨ d.bytes = 0)) := by rintro ⟨_, h | h⟩; exact h; omega
  have t2 : ¬ (Builtin.nextslicecap (len + n) cap * d.bytes > 2 ^ 48) := by simp; omega
  unfold Builtin.append_
  simp only [List.getElem?_toArray, List.getElem?_cons_zero, List.getElem?_cons_succ, Sem.run_bind, run_underlying hu, Result.andThen_ok, run_sizeOf hd, run_underlying hdx, Sem.run_pure]
  cases dx <;> first
    | exact absurd rfl (hni _)
    | (simp only [Sem.run_bind, Bool.false_eq_true, if_false, hn, Result.andThen_ok, hle, Bool.not_false, if_true, run_typeInfo hd, t1, t2, run_choose, Question.forced, run_askRoom, ho, hw, run_zeroValue hd hzv, Sem.run_pure, List.append_toArray])

theorem aCells_zero {size : Nat} {x : Value} {cs : List Value} (hr : aCells H size 0 x = some cs) : cs = [] := by
  unfold aCells at hr
  split at hr
  · cases hr; rfl
  · rw [if_pos rfl] at hr; cases hr; rfl
  · cases hr; simp
  · cases hr
theorem aCells_len {size n : Nat} {x : Value} {cs : List Value} (hr : aCells H size n x = some cs) (hx : ∀ l k, x ≠ .slice none l k) (hs : ∀ s, x = .string s → size = 1 ∧ n ≤ s.size) : cs.length = n * size := by
  unfold aCells at hr
  split at hr
  · exact absurd rfl (hx _ _)
  · split at hr
    · rename_i h; cases hr; simp [h]
    · split at hr <;> try cases hr
      split at hr <;> try cases hr
      split at hr <;> cases hr
      simp; omega
  · rename_i s; cases hr
    obtain ⟨h1, h2⟩ := hs s rfl
    have h3 : s.data.size = s.size := rfl
    simp [byteCells, h1]; omega
  · cases hr

theorem aAppend_sim (h : HR P w0 ρ H w) {sType xType type : TypeId} {s s' x x' : Value} {r : Value × AH} (hs : VR ρ s s') (hx : VR ρ x x') (hux : (P.underlying xType).isSome = true)
    (hr : aAppend P H sType xType s x = some r) : SV P w0 ρ (Builtin.append_ #[sType, xType] type #[s', x']) w r := by
  obtain ⟨dx, hdx⟩ := Option.isSome_iff_exists.1 hux
  unfold aAppend at hr
  split at hr <;> try cases hr
  rename_i e n hu hn
  split at hr <;> try cases hr
  rename_i d zz new hd hz hnew
  rw [hd] at hnew
  simp only [Option.map_some, Option.getD_some] at hnew
  obtain ⟨sz, z⟩ := zz
  obtain ⟨d', zv, hd', hzv, hsz, hzc, hzl, hzr⟩ := aZero_spec (ρ := ρ) hz
  rw [hd] at hd'; cases hd'
  split at hr <;> try cases hr
  rename_i hzz
  rw [not_or] at hzz
  have hni : ∀ k, dx ≠ .int k := by rintro k rfl; simp [isIntT, hdx] at hzz
  have hnl : new.length = n * sz := by rw [← hsz]; exact Classical.not_not.1 hzz.2
  have hn' := fun w => aLen_sim (P := P) hx hn w
  have hq : HR P w0 ρ H { w with drawn := w.drawn + 1 } := h.same rfl rfl rfl rfl
  cases s with
  | slice sb len k =>
   cases sb with
   | none =>
    -- onto nil
    dsimp only at hr
    obtain ⟨rfl, rfl⟩ := hs.slice_none_inv
    split at hr
    · rename_i h0; subst h0
      cases hr
      obtain ⟨ds, hds, hnd⟩ := aCells_sim h hx hnew
      refine ⟨.slice none 0 0, w, ρ, ?_, Ren.le_refl ρ, h, by simp [VR]⟩
      rw [append_in hu hd hdx hni (hn' w) (Nat.le_refl _) hds]; rfl
    · rename_i h0
      split at hr <;> cases hr
      rename_i hb
      obtain ⟨ds, hds, hnd⟩ := aCells_sim hq hx hnew
      obtain ⟨newCap, hc, hrun⟩ := append_grow (type := type) (base := none) (len := 0) (cap := 0) (os := []) hu hd hdx hni (hn' w) (by omega) hzv (by simpa using hb.1) hb.2 (by simp [Builtin.firstCells]) hds
      simp only [Nat.zero_add, List.nil_append] at hc hrun
      obtain ⟨w', l, g1, g2, g3, g4, g5⟩ := grow_sim h hd hsz hzc hzl hzv hc hnd hnl _ rfl
      refine ⟨_, w', _, ?_, g3, g4, VR.mk_slice g5⟩
      rw [hrun, g1]; rfl
   | some a =>
    dsimp only at hr
    obtain ⟨b, cap, hsl, rfl⟩ := hs.slice_inv
    have hsl' := hsl
    obtain ⟨l, hl, hsp, hbb, hbs, hk0, hk1⟩ := hsl
    have hlc : len ≤ cap := by
      by_cases hk : k = 0
      · exact (hk0 hk).1
      · exact (hk1 hk).2.1
    obtain ⟨bb, bo, bs⟩ := b
    simp only at hbb hbs hk0 hk1
    subst hbb; subst hbs
    split at hr
    · -- nothing
      rename_i h0; subst h0
      cases hr
      obtain ⟨ds, hds, hnd⟩ := aCells_sim h hx hnew
      have hds0 : ds = [] := by
        have := aCells_zero hnew; subst this; simpa [VRL] using hnd
      subst hds0
      refine ⟨_, w, ρ, ?_, Ren.le_refl ρ, h, VR.mk_slice hsl'⟩
      rw [append_in hu hd hdx hni (hn' w) hlc hds]; rfl
    · rename_i h0
      split at hr
      · -- in place, surely
        rename_i hk
        have hcap : cap = k - 1 := by have := (hk1 hk.1).1; omega
        split at hr <;> try cases hr
        rename_i c e' hg
        split at hr <;> cases hr
        rename_i hc
        obtain ⟨c1, c2⟩ := hc
        have c3 : new.length = n * d.size := by rw [hsz]; exact hnl
        obtain ⟨ds, hds, hnd⟩ := aCells_sim h hx hnew
        have hbo : bo = l.base + a.off := (hk1 hk.1).2.2 (by omega)
        have hbound : a.off + len * d.size + new.length ≤ c.length := by rw [c3, Nat.add_assoc, ← Nat.add_mul]; exact c1
        obtain ⟨w', s1, s2⟩ := store_sim (P := P) h hl hg hbound hnd c2
        rw [c3] at s2
        refine ⟨_, w', ρ, ?_, Ren.le_refl ρ, s2, VR.mk_slice (b := ⟨l.blk, bo, none⟩) (c := cap) ⟨l, hl, hsp, rfl, rfl, fun h => absurd h hk.1, fun _ => ⟨by omega, by omega, fun _ => hbo⟩⟩⟩
        rw [append_in hu hd hdx hni (hn' w) (by omega) hds]
        simp only [Sem.run_bind, addr_add, hbo, Nat.add_assoc] at s1 ⊢
        rw [s1]; rfl
      · rename_i hk
        split at hr <;> try cases hr
        rename_i hb
        split at hr <;> try cases hr
        rename_i old hold
        split at hr <;> try cases hr
        rename_i hol
        have hol : old.length = len * sz := by rw [← hsz]; exact Classical.not_not.1 hol
        obtain ⟨os, hos, hod⟩ := aCells_sim hq (VR.mk_slice hsl') hold
        obtain ⟨ds, hds, hnd⟩ := aCells_sim hq hx hnew
        have hbig : ¬ len + n ≤ cap → SV P w0 ρ (Builtin.append_ #[sType, xType] type #[.slice (some ⟨l.blk, bo, none⟩) len cap, x']) w (.slice (some ⟨H.next, 0, none⟩) (len + n) 0, H.new (.arr (old ++ new) e false)) := by
          intro hle
          obtain ⟨newCap, hc, hrun⟩ := append_grow (type := type) hu hd hdx hni (hn' w) hle hzv hb.1 hb.2 hos hds
          obtain ⟨w', l', g1, g2, g3, g4, g5⟩ := grow_sim h hd hsz hzc hzl hzv hc (hod.append hnd) (by rw [List.length_append, hol, hnl, Nat.add_mul]) _ rfl
          refine ⟨_, w', _, ?_, g3, g4, VR.mk_slice g5⟩
          rw [hrun, g1]; rfl
        split at hr
        · -- a new row, surely
          rename_i hk'
          cases hr
          exact hbig fun hle => hk ⟨hk', by have := (hk1 hk').1; omega⟩
        · rename_i hk'
          split at hr <;> try cases hr
          rename_i c e' hg
          split at hr <;> cases hr
          rename_i hc
          have hk'' : k = 0 := Classical.not_not.1 hk'
          obtain ⟨q1, q2, q3⟩ := hk0 hk''
          obtain ⟨hun, hone⟩ := hc
          obtain ⟨cs, e'', fz, i, r1, r2, r3, r4, r5, r6⟩ := h.arr hl hg
          have hunit : l.unit = sz := by rw [r3] at hun; simp at hun; rw [r4, hun, hsz]
          by_cases hle : len + n ≤ cap
          · -- it may lie in place
            obtain ⟨ds, hds, hnd⟩ := aCells_sim h hx hnew
            obtain ⟨os, hos, hod⟩ := aCells_sim h (VR.mk_slice hsl') hold
            have hdl : ds.length = n * sz := by rw [← hnd.length, hnl]
            have hcs : bo + len * sz + ds.length ≤ cs.size := by
              rw [hdl, Nat.add_assoc, ← Nat.add_mul, ← r2]
              have : (len + n) * sz ≤ cap * l.unit := by rw [hunit]; exact Nat.mul_le_mul_right _ hle
              omega
            obtain ⟨w', s1, s2, s3⟩ := run_storeCells_list (P := P) l.blk (bo + len * sz) e'' fz ds 0 cs w r1 ((r6 rfl).imp id fun e => Nat.le_of_eq e.symm) (by simpa using hcs) (hnd.oneCell hone)
            have hnext : ρ H.next = none := h.dom _ (Nat.le_refl _)
            have htk := h.takeover (w' := w') (y := .arr (old ++ new) e false) (l' := ⟨l.blk, bo, l.lim, l.unit⟩) hl hg rfl s3.size (fun j hj => s3.other j hj) s3.os s3.output s3.tape rfl ?_
            · refine ⟨_, w', _, ?_, htk.1, htk.2, VR.mk_slice (b := ⟨l.blk, bo, none⟩) (c := cap) ⟨_, Ren.upd_same _ _ _, rfl, rfl, rfl, fun _ => ⟨hle, by simpa using q2, fun _ => by simp⟩, fun h => absurd rfl h⟩⟩
              rw [append_in hu hd hdx hni (hn' w) hle hds]
              simp only [Sem.run_bind, addr_add, hsz]
              rw [s1]; rfl
            · refine ⟨_, e'', fz, d, s2, ?_, hd, by rw [hunit, hsz], ?_, ?_⟩
              · simp only [List.size_toArray, List.length_append, List.length_take, List.length_drop, Array.length_toList, Nat.add_zero]; rw [r2]; omega
              · have hol' : os.length = len * sz := by rw [← hod.length, hol]
                have hos' : os = (cs.toList.drop bo).take (len * sz) := by
                  by_cases hl0 : len = 0
                  · subst hl0; simp at hol' ⊢; exact hol'
                  · simp only [Builtin.firstCells] at hos
                    have hb0 : bo + len * d.size ≤ cs.size := by rw [hsz]; omega
                    rw [run_loadCells_at r1 hb0] at hos
                    have := congrArg (fun r : Result (Array Value) => match r with | .ok a _ => a.toList | _ => []) hos
                    simp only [hsz] at this
                    exact this.symm
                have hfin : ((cs.toList.take (bo + len * sz + 0) ++ ds ++ cs.toList.drop (bo + len * sz + 0 + ds.length)).drop bo).take (old ++ new).length = os ++ ds := by
                  rw [List.length_append, hol, hnl, Nat.add_zero, List.append_assoc, List.drop_append_of_le_length (by simp; omega), List.drop_take, show bo + len * sz - bo = len * sz by omega, ← hos', ← List.append_assoc]
                  exact List.take_left' (by simp [hol', hdl])
                show VRL _ _ (List.take _ (List.drop bo _))
                simp only
                rw [hfin]
                exact (hod.append hnd).mono (Ren.le_upd hnext)
              · intro _
                have : (cs.toList.take (bo + len * sz + 0) ++ ds ++ cs.toList.drop (bo + len * sz + 0 + ds.length)).length = cs.size := by simp; omega
                simp only [List.size_toArray, this]
                exact r6 rfl
          · obtain ⟨v', w', ρ', t1, t2, t3, t4⟩ := hbig hle
            refine ⟨v', w', ρ', t1, t2, ?_, t4⟩
            have hne : a.block ≠ H.next := fun e => by rw [e, h.dom _ (Nat.le_refl _)] at hl; cases hl
            have := t3.kill a.block
            have heq : (H.new (.arr (old ++ new) e false)).set a.block .dead = (H.set a.block .dead).new (.arr (old ++ new) e false) := by
              refine AH.ext (by simp) fun i => ?_
              simp only [AH.get_set, AH.get_new, AH.set_next]
              by_cases h1 : i = a.block
              · subst h1; simp [hne]
              · simp [h1]
            rw [heq] at this; exact this
  | _ => cases hr

noncomputable def aCopy (P : Program) (H : AH) (dType : TypeId) (dst src : Value) : OV :=
  match P.underlying dType, aLen src, dst with
  | some (.slice e), some m, .slice base len _ => match P.info? e with
    | some d =>
      let n := min m len
      match aCells H d.size n src with
      | some new => match base with
        | none => some (.int .i64 n, H)
        | some a => if n = 0 then some (.int .i64 0, H) else match H.get a.block with
          | some (.arr c e' false) => if a.off + new.length ≤ c.length ∧ new.all Value.oneCell' = true then
              some (.int .i64 n, H.set a.block (.arr (c.take a.off ++ new ++ c.drop (a.off + new.length)) e' false)) else none
          | _ => none
      | none => none
    | none => none
  | _, _, _ => none
theorem aCopy_sim (h : HR P w0 ρ H w) {dType t2 type : TypeId} {x x' y y' : Value} {r : Value × AH} (hx : VR ρ x x') (hy : VR ρ y y')
    (hr : aCopy P H dType x y = some r) : SV P w0 ρ (Builtin.copy_ #[dType, t2] type #[x', y']) w r := by
  unfold aCopy at hr
  split at hr <;> try cases hr
  rename_i e m base len k hu hm
  split at hr <;> try cases hr
  rename_i d hd
  dsimp only at hr
  split at hr <;> try cases hr
  rename_i new hnew
  obtain ⟨ds, hds, hnd⟩ := aCells_sim h hy hnew
  have hl := aLen_sim (P := P) hy hm w
  cases base with
  | none =>
    obtain ⟨rfl, rfl⟩ := hx.slice_none_inv
    dsimp only at hr; cases hr
    refine ⟨_, w, ρ, ?_, Ren.le_refl ρ, h, by simp only [VR]; rfl⟩
    unfold Builtin.copy_
    simp only [List.getElem?_toArray, List.getElem?_cons_zero, List.getElem?_cons_succ, Sem.run_bind, run_underlying hu, Result.andThen_ok, hl, run_sizeOf hd]
    rw [show Nat.min m 0 = min m 0 from rfl, hds]; rfl
  | some a =>
    dsimp only at hr
    obtain ⟨b, cap, hs, rfl⟩ := hx.slice_inv
    have hrun : (Builtin.copy_ #[dType, t2] type #[.slice (some b) len cap, y']).run P w = (do storeCells b ds; pure (goInt (min m len : Nat)) : Sem Value).run P w := by
      unfold Builtin.copy_
      simp only [List.getElem?_toArray, List.getElem?_cons_zero, List.getElem?_cons_succ, Sem.run_bind, run_underlying hu, Result.andThen_ok, hl, run_sizeOf hd]
      rw [show Nat.min m len = min m len from rfl, hds]; rfl
    split at hr
    · rename_i h0
      cases hr
      have : ds = [] := by
        rw [h0] at hnew
        have := aCells_zero hnew; subst this; simpa [VRL] using hnd
      subst this
      refine ⟨_, w, ρ, hrun, Ren.le_refl ρ, h, ?_⟩
      rw [h0]; simp only [VR]; rfl
    · rename_i h0
      split at hr <;> try cases hr
      rename_i c e' hg
      split at hr <;> cases hr
      rename_i hc
      obtain ⟨l, hl, rfl⟩ := hs.addr (by omega)
      obtain ⟨w', s1, s2⟩ := store_sim (P := P) h hl hg hc.1 hnd hc.2
      refine ⟨_, w', ρ, ?_, Ren.le_refl ρ, s2, by simp only [VR]; rfl⟩
      rw [hrun]
      simp only [Sem.run_bind, s1, Result.andThen_ok, Sem.run_pure]; rfl

/-! bytes and strings -/
def bytesOf : List Value → Option (List Int)
  | [] => some []
  | .int .u8 n :: r => (bytesOf r).map (n :: ·)
  | _ => none
theorem bytesOf_eq : ∀ {cs : List Value} {ns : List Int}, bytesOf cs = some ns → cs = ns.map (.int .u8)
  | [], _, h => by simp [bytesOf] at h; simp [h]
  | c :: cs, ns, h => by
    unfold bytesOf at h
    split at h <;> try cases h
    · contradiction
    · rename_i n r heq
      injection heq with h1 h2
      subst h1; subst h2
      rw [Option.map_eq_some_iff] at h
      obtain ⟨ms, hm, rfl⟩ := h
      rw [List.map_cons, ← bytesOf_eq hm]
def strOf (ns : List Int) : ByteArray := ⟨⟨ns.map fun n => UInt8.ofNat n.toNat⟩⟩
theorem foldl_push (ns : List Int) : ∀ s : ByteArray, ns.foldl (fun r n => r.push (UInt8.ofNat n.toNat)) s = ⟨⟨s.data.toList ++ ns.map fun n => UInt8.ofNat n.toNat⟩⟩ := by
  induction ns with
  | nil => intro s; obtain ⟨⟨l⟩⟩ := s; simp
  | cons n ns ih => intro s; obtain ⟨⟨l⟩⟩ := s; rw [List.foldl_cons, ih]; simp [ByteArray.push]
noncomputable def aBytesToString (H : AH) (x : Value) : Option Value :=
  match x with
  | .slice none _ _ => some (.string .empty)
  | .slice (some a) n k => match aCells H 1 n (.slice (some a) n k) with
    | some cs => (bytesOf cs).map fun ns => .string (strOf ns)
    | none => none
  | _ => none
theorem aBytesToString_sim (h : HR P w0 ρ H w) {x x' v : Value} (hx : VR ρ x x') (hr : aBytesToString H x = some v) : ∃ v', (Conv.bytesToString x').run P w = .ok v' w ∧ VR ρ v v' := by
  unfold aBytesToString at hr
  split at hr <;> try cases hr
  · obtain ⟨_, rfl⟩ := hx.slice_none_inv
    exact ⟨_, rfl, by simp only [VR]⟩
  · rename_i a n k
    split at hr <;> try cases hr
    rename_i cs hcs
    rw [Option.map_eq_some_iff] at hr
    obtain ⟨ns, hns, rfl⟩ := hr
    obtain ⟨ds, hds, hnd⟩ := aCells_sim (P := P) h hx hcs
    obtain ⟨b, c, _, rfl⟩ := hx.slice_inv
    have hcl : closedL cs = true := by
      rw [bytesOf_eq hns]
      clear hns hcs hnd hds
      induction ns with
      | nil => rfl
      | cons n ns ih => simp only [List.map_cons, closedL, closed, ih, Bool.and_self]
    have := VRL.eq_of_closed hcl hnd
    subst this
    rw [bytesOf_eq hns] at hds
    simp only [Builtin.firstCells, Nat.mul_one] at hds
    refine ⟨_, run_bytesToString w b n c ns hds, ?_⟩
    rw [foldl_push]
    simp only [VR, strOf]; rfl
noncomputable def aStringToBytes (P : Program) (H : AH) (e : TypeId) (s : ByteArray) : OV :=
  match P.info? e with
  | some d => if d.size = 1 then some (.slice (some ⟨H.next, 0, none⟩) s.size 0, H.new (.arr (byteCells s) e false)) else none
  | none => none
theorem aStringToBytes_sim (h : HR P w0 ρ H w) {e : TypeId} {s : ByteArray} {r : Value × AH} (hr : aStringToBytes P H e s = some r) : SV P w0 ρ (Conv.stringToBytes e s) w r := by
  unfold aStringToBytes at hr
  split at hr <;> try cases hr
  rename_i d hd
  split at hr <;> cases hr
  rename_i hsz
  have hn : ρ H.next = none := h.dom _ (Nat.le_refl _)
  have hle : ρ.le (ρ.upd H.next ⟨w.heap.size, 0, (Question.appendCap s.size 0 e).cut (w.tape w.drawn (.appendCap s.size 0 e)), 1⟩) := Ren.le_upd hn
  generalize hcap : (Question.appendCap s.size 0 e).cut (w.tape w.drawn (.appendCap s.size 0 e)) = cap at hle
  have hcs : s.size ≤ cap := by rw [← hcap]; exact Nat.le_add_right _ _
  have hcells : (s.data.map fun b => Value.int .u8 b.toNat) ++ Array.replicate (cap - s.size) (.int .u8 0) = ⟨byteCells s ++ List.replicate (cap - s.size) (.int .u8 0)⟩ := by
    apply Array.toList_inj.1; simp [byteCells]
  have hbl : (byteCells s).length = s.size := by simp [byteCells]
  have htot : (byteCells s ++ List.replicate (cap - s.size) (Value.int .u8 0)).length = cap := by rw [List.length_append, hbl, List.length_replicate]; omega
  have hw : ∃ w' fz, (Conv.stringToBytes e s).run P w = .ok (.slice (some ⟨w.heap.size, 0, none⟩) s.size cap) w' ∧ w'.heap = w.heap.push (.cells ⟨byteCells s ++ List.replicate (cap - s.size) (.int .u8 0)⟩ e fz) ∧
      w'.os = w.os ∧ w'.output = w.output ∧ w'.tape = w.tape ∧ cap ≤ fz.1 := by
    refine ⟨(({ w with drawn := w.drawn + 1, heap := w.heap.push (.cells ⟨byteCells s ++ List.replicate (cap - s.size) (.int .u8 0)⟩ e) } : World).freeze ⟨w.heap.size, cap, none⟩ 1), (cap, cap + 1), ?_, ?_, ?_, ?_, ?_, Nat.le_refl _⟩
    · simp only [Conv.stringToBytes, Sem.run_bind, run_choose, Question.forced, Bool.false_eq_true, if_false, Result.andThen_ok, hcap, hcells, newRow, run_newObj, Sem.run_pure, markStringish, run_shape]
      have hsh : World.shape? { heap := w.heap.push (Obj.cells ⟨byteCells s ++ List.replicate (cap - s.size) (.int .u8 0)⟩ e), tape := w.tape, drawn := w.drawn + 1, os := w.os, output := w.output } w.heap.size = some (e, cap) := by
        simp only [World.shape?, Array.getElem?_push_size, List.size_toArray, htot]
      rw [hsh]
      simp only [run_freeze, Result.andThen_ok]
    · simp only [World.freeze, Nat.one_ne_zero, if_false]
      apply Array.ext_getElem?
      intro i
      rw [Array.getElem?_modify]
      by_cases hi : i = w.heap.size
      · subst hi; simp
      · simp [Ne.symm hi, Array.getElem?_push, hi]
    all_goals simp [World.freeze]
  obtain ⟨w', fz, q1, q2, q3, q4, q5, q6⟩ := hw
  obtain ⟨_, q7⟩ := h.new (l := ⟨w.heap.size, 0, cap, 1⟩) (x := .arr (byteCells s) e false) q2 q3 q4 q5 rfl (by
    refine ⟨⟨byteCells s ++ List.replicate (cap - s.size) (.int .u8 0)⟩, e, fz, d, by rw [q2]; simp, by simp only [List.size_toArray]; exact htot.symm, hd, hsz.symm, ?_, fun _ => .inl (by simp only [List.size_toArray, htot]; exact q6)⟩
    simp only [List.drop_zero]
    rw [List.take_left' rfl]
    exact VRL.of_closed _ (byteCells_closed s))
  exact ⟨_, w', _, q1, hle, q7, VR.mk_slice ⟨_, Ren.upd_same _ _ _, rfl, rfl, rfl, fun _ => ⟨hcs, by simp, fun _ => by simp⟩, fun h => absurd rfl h⟩⟩

/-! append of so many zero values, onto nil -/
noncomputable def aAppendZ (P : Program) (H : AH) (sType xType : TypeId) (s x : Value) : OV :=
  match P.underlying sType, P.underlying xType, s, x with
  | some (.slice e), some (.int _), .slice none len k, .int .i64 (.ofNat n) => match P.info? e, aZero P e with
    | some d, some (_, z) => if n * d.bytes ≤ 140737488355328 ∧ 0 < d.bytes then
        (if n = 0 then some (.slice none len k, H) else some (.slice (some ⟨H.next, 0, none⟩) n 0, H.new (.arr (zeros z n) e false))) else none
    | _, _ => none
  | _, _, _, _ => none
theorem aAppendZ_sim (h : HR P w0 ρ H w) {sType xType type : TypeId} {s s' x x' : Value} {r : Value × AH} (hs : VR ρ s s') (hx : VR ρ x x')
    (hr : aAppendZ P H sType xType s x = some r) : SV P w0 ρ (Builtin.append_ #[sType, xType] type #[s', x']) w r := by
  unfold aAppendZ at hr
  split at hr <;> try cases hr
  rename_i e kx len k n hu hux
  split at hr <;> try cases hr
  rename_i d sz z hd hz
  obtain ⟨d', zv, hd', hzv, hsz, hzc, hzl, hzr⟩ := aZero_spec (ρ := ρ) hz
  rw [hd] at hd'; cases hd'
  obtain ⟨_, rfl⟩ := hs.slice_none_inv
  simp only [VR] at hx
  subst hx
  split at hr <;> try cases hr
  rename_i hb
  obtain ⟨hb1, hb2⟩ := hb
  have hn : n ≤ 140737488355328 := Nat.le_trans (Nat.le_mul_of_pos_right n hb2) hb1
  have hwr : IntKind.i64.wrap (Int.ofNat n) = (n : Int) := wrap_id (by simp) (by simp; omega)
  have t0 : ¬ ((n : Int) < 0) := by omega
  have t3 : ¬ ((n : Int) * (d.bytes : Int) > 2 ^ 48) := by
    have : (n : Int) * (d.bytes : Int) = ((n * d.bytes : Nat) : Int) := by simp
    rw [this]; simp; omega
  split at hr
  · rename_i h0
    cases hr
    subst h0
    refine ⟨.slice none 0 0, w, ρ, ?_, Ren.le_refl ρ, h, hs⟩
    unfold Builtin.append_
    simp only [List.getElem?_toArray, List.getElem?_cons_zero, List.getElem?_cons_succ, Sem.run_bind, run_underlying hu, Result.andThen_ok, run_sizeOf hd, run_underlying hux, Sem.run_pure, asInt, asIntOf, if_true, hwr, t0, t3, if_false, run_typeInfo hd]
    simp
  · rename_i h0
    cases hr
    have h48 : Builtin.nextslicecap n 0 * d.bytes ≤ 281474976710656 := growslice_fits (by omega) hb1
    have t1 : ¬ (((n : Nat) : Int) > IntKind.i64.max ∧ (True ∨ d.bytes = 0)) := by
      rintro ⟨q, _⟩
      simp [IntKind.max, IntKind.bits, IntKind.signed] at q
      omega
    have t2 : ¬ (Builtin.nextslicecap n 0 * d.bytes > 2 ^ 48) := by simp; omega
    have hle : ¬ n ≤ 0 := by omega
    obtain ⟨w', l, g1, g2, g3, g4, g5⟩ := grow_sim h hd hsz hzc hzl (newCap := (Question.appendCap n 0 e).cut (w.tape w.drawn (.appendCap n 0 e))) (need := n) hzv (Nat.le_add_right _ _) (hzr.zeros n) (by rw [zeros_length, hzl]) _ rfl
    refine ⟨_, w', _, ?_, g3, g4, VR.mk_slice g5⟩
    have happ : (if n * d.size = 0 then (pure #[] : Sem (Array Value)) else (do pure (Builtin.zeroCells (← zeroValue e).cells n))).run P { w with drawn := w.drawn + 1 } = .ok ⟨zeros z n⟩ { w with drawn := w.drawn + 1 } := by
      split
      · rename_i hz0
        have : zeros z n = [] := List.length_eq_zero_iff.1 (by rw [zeros_length, hzl, ← hsz]; exact hz0)
        rw [this]; rfl
      · simp only [Sem.run_bind, run_zeroValue hd hzv, Result.andThen_ok, Sem.run_pure, hzc, zeroCells_eq]
    unfold Builtin.append_
    simp only [List.getElem?_toArray, List.getElem?_cons_zero, List.getElem?_cons_succ, Sem.run_bind, run_underlying hu, Result.andThen_ok, run_sizeOf hd, run_underlying hux, Sem.run_pure, asInt, asIntOf, if_true, hwr, t0, t3, if_false, run_typeInfo hd,
      Int.toNat_natCast, Nat.zero_add, hle, t1, t2, run_choose, Question.forced, Bool.false_eq_true, run_askRoom, Builtin.firstCells, Bool.not_true, happ, run_zeroValue hd hzv, Array.empty_append]
    rw [g1]; rfl
end Go.Mt
/- Abstract operations, part 7: operators, interfaces, maps. -/
namespace Go.Mt
variable {P : Program} {w0 : Base} {w w' : World} {ρ : Ren} {H : AH}

def bytesLt (a b : List UInt8) : Bool := Op.bytesLess a b
def aStr (op : BinOp) (s u : ByteArray) : Option Value :=
  match op with
  | .add => if s.size + u.size ≤ 9223372036854775807 then some (.string ⟨⟨s.data.toList ++ u.data.toList⟩⟩) else none
  | .eql => some (.bool (s.data.toList == u.data.toList))
  | .neq => some (.bool !(s.data.toList == u.data.toList))
  | .lss => some (.bool (Op.bytesLess s.data.toList u.data.toList))
  | .leq => some (.bool (Op.bytesLess s.data.toList u.data.toList || s.data.toList == u.data.toList))
  | .gtr => some (.bool !(Op.bytesLess s.data.toList u.data.toList || s.data.toList == u.data.toList))
  | .geq => some (.bool !(Op.bytesLess s.data.toList u.data.toList))
  | _ => none
theorem aStr_sim {op : BinOp} {s u : ByteArray} {v : Value} (hr : aStr op s u = some v) (w : World) : (Op.stringOp op s u).run P w = .ok v w := by
  unfold aStr at hr
  unfold Op.stringOp
  simp only [ByteArray.toList_eq]
  split at hr
  case h_8 => cases hr
  case h_1 =>
   split at hr <;> cases hr
   rename_i h
   have : ¬ (((s.size + u.size : Nat) : Int) > IntKind.i64.max) := by simp; omega
   simp only [this, if_false, Sem.run_pure]
   congr 2
  all_goals (cases hr; rfl)

/-- is one of two nil? -/
def aNilEq (P : Program) (t : TypeId) (a b : Value) : Option Bool :=
  match P.underlying t, a, b with
  | some (.pointer _), .pointer none, .pointer b => some b.isNone
  | some (.pointer _), .pointer (some _), .pointer none => some false
  | some (.slice _), .slice none _ _, .slice b _ _ => some b.isNone
  | some (.slice _), .slice (some _) _ _, .slice none _ _ => some false
  | some (.map _ _), .map none, .map b => some b.isNone
  | some (.map _ _), .map (some _), .map none => some false
  | some (.func ..), .nilFunc, .nilFunc => some true
  | some (.func ..), .nilFunc, .func .. => some false
  | some (.func ..), .func .., .nilFunc => some false
  | some (.interface _), .nilIface, .iface .. => some false
  | some (.interface _), .iface .., .nilIface => some false
  | _, _, _ => none
theorem VR.pointer_shape {b : Option Addr} {y : Value} (h : VR ρ (.pointer b) y) : ∃ b', y = .pointer b' ∧ b'.isNone = b.isNone := by
  cases b with
  | none => simp only [VR] at h; exact ⟨none, h, rfl⟩
  | some a => simp only [VR] at h; obtain ⟨b', _, rfl⟩ := h; exact ⟨_, rfl, rfl⟩
theorem VR.slice_shape {b : Option Addr} {n k : Nat} {y : Value} (h : VR ρ (.slice b n k) y) : ∃ b' c, y = .slice b' n c ∧ b'.isNone = b.isNone := by
  cases b with
  | none => simp only [VR] at h; obtain ⟨rfl, rfl⟩ := h; exact ⟨none, 0, rfl, rfl⟩
  | some a => simp only [VR] at h; obtain ⟨b', c, _, rfl⟩ := h; exact ⟨_, _, rfl, rfl⟩
theorem VR.map_shape {b : Option Nat} {y : Value} (h : VR ρ (.map b) y) : ∃ b', y = .map b' ∧ b'.isNone = b.isNone := by
  cases b with
  | none => simp only [VR] at h; exact ⟨none, h, rfl⟩
  | some a => simp only [VR] at h; obtain ⟨b', _, _, rfl⟩ := h; exact ⟨_, rfl, rfl⟩
theorem VR.func_shape {f : Fn} {x z : Array Value} {y : Value} (h : VR ρ (.func f x z) y) : ∃ g x' z', y = .func g x' z' := by
  obtain ⟨x⟩ := x; obtain ⟨z⟩ := z; simp only [VR] at h; obtain ⟨g, x', z', _, _, _, rfl⟩ := h; exact ⟨_, _, _, rfl⟩
theorem VR.iface_inv {t : TypeId} {v y : Value} (h : VR ρ (.iface t v) y) : ∃ v', VR ρ v v' ∧ y = .iface t v' := by simpa only [VR] using h
theorem VR.nilFunc_inv {y : Value} (h : VR ρ .nilFunc y) : y = .nilFunc := by simpa only [VR] using h
theorem VR.nilIface_inv {y : Value} (h : VR ρ .nilIface y) : y = .nilIface := by simpa only [VR] using h
theorem aNilEq_sim {t : TypeId} {a a' b b' : Value} {r : Bool} (ha : VR ρ a a') (hb : VR ρ b b') (hr : aNilEq P t a b = some r) (w : World) :
    (∀ n, (Op.equalIn (n + 1) t a' b').run P w = .ok r w) ∧ ∀ (op : BinOp) (x y : Operand), eqGuard op t x y a' b' = pure () := by
  unfold aNilEq at hr
  split at hr <;> try cases hr
  all_goals rename_i hu
  · cases (show a' = .pointer none by simpa only [VR] using ha)
    obtain ⟨b'', rfl, e⟩ := hb.pointer_shape
    refine ⟨fun n => ?_, fun op x y => by cases op <;> rfl⟩
    simp [Op.equalIn, run_underlying hu, e]
  · obtain ⟨b'', rfl, e⟩ := ha.pointer_shape
    cases (show b' = .pointer none by simpa only [VR] using hb)
    cases b'' <;> simp at e
    refine ⟨fun n => ?_, fun op x y => by cases op <;> rfl⟩
    simp [Op.equalIn, run_underlying hu]
  · obtain ⟨b1, c1, rfl, e1⟩ := ha.slice_shape
    obtain ⟨b2, c2, rfl, e2⟩ := hb.slice_shape
    cases b1 <;> simp at e1
    refine ⟨fun n => ?_, fun op x y => by cases op <;> rfl⟩
    simp [Op.equalIn, run_underlying hu, e2]
  · obtain ⟨b1, c1, rfl, e1⟩ := ha.slice_shape
    obtain ⟨b2, c2, rfl, e2⟩ := hb.slice_shape
    cases b1 <;> simp at e1
    cases b2 <;> simp at e2
    refine ⟨fun n => ?_, fun op x y => by cases op <;> rfl⟩
    simp [Op.equalIn, run_underlying hu]
  · obtain ⟨b1, rfl, e1⟩ := ha.map_shape
    obtain ⟨b2, rfl, e2⟩ := hb.map_shape
    cases b1 <;> simp at e1
    refine ⟨fun n => ?_, fun op x y => by cases op <;> rfl⟩
    simp [Op.equalIn, run_underlying hu, e2]
  · obtain ⟨b1, rfl, e1⟩ := ha.map_shape
    obtain ⟨b2, rfl, e2⟩ := hb.map_shape
    cases b1 <;> simp at e1
    cases b2 <;> simp at e2
    refine ⟨fun n => ?_, fun op x y => by cases op <;> rfl⟩
    simp [Op.equalIn, run_underlying hu]
  · cases ha.nilFunc_inv; cases hb.nilFunc_inv
    refine ⟨fun n => ?_, fun op x y => by cases op <;> rfl⟩
    simp [Op.equalIn, run_underlying hu]
  · cases ha.nilFunc_inv; obtain ⟨_, _, _, rfl⟩ := hb.func_shape
    refine ⟨fun n => ?_, fun op x y => by cases op <;> rfl⟩
    simp [Op.equalIn, run_underlying hu]
  · cases hb.nilFunc_inv; obtain ⟨_, _, _, rfl⟩ := ha.func_shape
    refine ⟨fun n => ?_, fun op x y => by cases op <;> rfl⟩
    simp [Op.equalIn, run_underlying hu]
  · cases ha.nilIface_inv; obtain ⟨_, _, rfl⟩ := hb.iface_inv
    refine ⟨fun n => ?_, fun op x y => by cases op <;> rfl⟩
    simp [Op.equalIn, run_underlying hu]
  · cases hb.nilIface_inv; obtain ⟨_, _, rfl⟩ := ha.iface_inv
    refine ⟨fun n => ?_, fun op x y => by cases op <;> rfl⟩
    simp [Op.equalIn, run_underlying hu]

theorem equal_at (t : TypeId) (a b : Value) : Op.equal t a b = Op.equalIn (9999 + 1) t a b := rfl
theorem VRp (ρ : Ren) {x y : Value} (h : closed x = true) (r : VR ρ x y) : y = x := VR.eq_of_closed h r

/-- a program over what holds no address, that looks into no memory. -/
def pureC (P : Program) (s : Sem Value) : Option (Except Value Value) :=
  match pureRun P s with
  | some (.ok v) => if closed v then some (.ok v) else none
  | some (.error v) => if closed v then some (.error v) else none
  | none => none
def aBin (P : Program) (op : BinOp) (t : TypeId) (x y : Operand) (a b : Value) : Option (Except Value Value) :=
  match a, b with
  | .string s, .string u => (aStr op s u).map .ok
  | _, _ => if closed a && closed b then pureC P (do eqGuard op t x y a b; Go.binOp op t a b)
    else match op with
      | .eql => (aNilEq P t a b).map fun r => .ok (.bool r)
      | .neq => (aNilEq P t a b).map fun r => .ok (.bool !r)
      | _ => none
/-- what a program that keeps the world comes to. -/
def ESim (P : Program) (ρ : Ren) (s : Sem Value) (w : World) : Except Value Value → Prop
  | .ok v => ∃ v', s.run P w = .ok v' w ∧ VR ρ v v'
  | .error v => ∃ v', s.run P w = .halt (.panic v') w ∧ VR ρ v v'
theorem pureC_sim {s : Sem Value} {r : Except Value Value} (h : pureC P s = some r) (ρ : Ren) (w : World) : ESim P ρ s w r := by
  unfold pureC at h
  split at h
  · rename_i v hv
    split at h <;> cases h
    rename_i hc
    exact ⟨v, pureRun_ok hv w, VR.of_closed ρ hc⟩
  · rename_i v hv
    split at h <;> cases h
    rename_i hc
    exact ⟨v, pureRun_panic hv w, VR.of_closed ρ hc⟩
  · cases h
theorem binOp_eql {t : TypeId} {a b : Value} {r : Bool} (h : aNilEq P t a b = some r) {a' b' : Value} (ha : VR ρ a a') (hb : VR ρ b b') :
    Go.binOp .eql t a' b' = (do pure (.bool (← Op.equal t a' b')) : Sem Value) ∧ Go.binOp .neq t a' b' = (do pure (.bool (!(← Op.equal t a' b'))) : Sem Value) := by
  have e1 := ha.tag; have e2 := hb.tag
  unfold aNilEq at h
  split at h <;> try cases h
  all_goals (cases a' <;> simp [Mt.tag] at e1; cases b' <;> simp [Mt.tag] at e2; exact ⟨rfl, rfl⟩)
theorem aBin_sim {op : BinOp} {t : TypeId} {x y : Operand} {a a' b b' : Value} {r : Except Value Value} (ha : VR ρ a a') (hb : VR ρ b b') (hr : aBin P op t x y a b = some r)
    (w : World) : ESim P ρ (do eqGuard op t x y a' b'; Go.binOp op t a' b') w r := by
  unfold aBin at hr
  split at hr
  · rename_i s u
    cases ha.string_inv; cases hb.string_inv
    rw [Option.map_eq_some_iff] at hr
    obtain ⟨v, hv, rfl⟩ := hr
    refine ⟨v, ?_, ?_⟩
    · have hg : eqGuard op t x y (.string s) (.string u) = pure () := by cases op <;> rfl
      have hb : Go.binOp op t (.string s) (.string u) = Op.stringOp op s u := by cases op <;> rfl
      rw [hg, hb]
      simp only [Sem.run_bind, Sem.run_pure, Result.andThen_ok]
      exact aStr_sim hv w
    · unfold aStr at hv
      split at hv <;> (try split at hv) <;> cases hv <;> simp only [VR]
  · split at hr
    · rename_i hc
      simp only [Bool.and_eq_true] at hc
      cases VR.eq_of_closed hc.1 ha; cases VR.eq_of_closed hc.2 hb
      exact pureC_sim hr ρ w
    · split at hr <;> try cases hr
      all_goals
        rw [Option.map_eq_some_iff] at hr
        obtain ⟨q, hq, rfl⟩ := hr
        obtain ⟨e1, e2⟩ := aNilEq_sim ha hb hq w
        obtain ⟨e3, e4⟩ := binOp_eql hq ha hb
        refine ⟨_, ?_, by simp only [VR]; rfl⟩
        rw [e2]
        simp only [Sem.run_bind, Sem.run_pure, Result.andThen_ok, e3, e4, equal_at, e1 9999]

def aUn (P : Program) (op : UnOp) (x : Value) : Option (Except Value Value) := if closed x then pureC P (Op.unary op x) else none
theorem aUn_sim {op : UnOp} {x x' : Value} {r : Except Value Value} (hx : VR ρ x x') (hr : aUn P op x = some r) (w : World) : ESim P ρ (Op.unary op x') w r := by
  unfold aUn at hr
  split at hr <;> try cases hr
  rename_i hc
  cases VR.eq_of_closed hc hx
  exact pureC_sim hr ρ w

inductive ERes where
  | val (v : Value) (H : AH)
  | pan (v : Value)
theorem AH.set_self {b : Nat} {x : ABlk} (h : H.get b = some x) : H.set b x = H := by
  refine AH.ext (by simp) fun i => ?_
  rw [AH.get_set]
  split
  · subst_vars; exact h.symm
  · rfl
theorem HR.markStringish (h : HR P w0 ρ H w) {b : Nat} {l : Loc} {c : List Value} {e : TypeId} (hl : ρ b = some l) (hg : H.get b = some (.arr c e false)) (o : Nat) : ∃ w', (Go.markStringish ⟨l.blk, o, none⟩).run P w = .ok () w' ∧ HR P w0 ρ H w' := by
  obtain ⟨cs, e', fz, i, h1, h2, h3, h4, h5, h6⟩ := h.arr hl hg
  refine ⟨w.freeze ⟨l.blk, cs.size, none⟩ 1, ?_, ?_⟩
  · simp only [Go.markStringish, Sem.run_bind, run_shape, World.shape?, h1, Result.andThen_ok, run_freeze]
  · obtain ⟨lo, hi⟩ := fz
    have hh : (w.freeze ⟨l.blk, cs.size, none⟩ 1).heap[l.blk]? = some (.cells cs e' (if lo == hi then (cs.size, cs.size + 1) else (min lo cs.size, max hi (cs.size + 1)))) := by
      simp only [World.freeze, Nat.one_ne_zero, if_false, Array.getElem?_modify, h1, if_true, Option.map_some]
    have := h.update (w' := w.freeze ⟨l.blk, cs.size, none⟩ 1) (y := .arr c e false) hl hg rfl (by simp [World.freeze]) (fun j hj => by simp only [World.freeze, Nat.one_ne_zero, if_false, Array.getElem?_modify, if_neg (Ne.symm hj)]) (by simp [World.freeze]) (by simp [World.freeze]) (by simp [World.freeze])
      ⟨cs, e', _, i, hh, h2, h3, h4, h5, fun _ => by
        left
        split
        · exact Nat.le_refl _
        · rename_i hne
          rcases h6 rfl with q | q
          · exact Nat.le_min.2 ⟨q, Nat.le_refl _⟩
          · exact absurd (show (lo == hi) = true by simpa using q) hne⟩
    rwa [AH.set_self hg] at this
noncomputable def aConvert (P : Program) (H : AH) (src dst : TypeId) (x : Value) : Option ERes :=
  match P.underlying src, P.underlying dst, x with
  | some (.slice e), some .string, x => match P.underlying e with
    | some (.int .u8) => (match x with
      | .slice .. => (aBytesToString H x).map (.val · H)
      | _ => none)
    | _ => none
  | some .string, some (.slice e), .string s => match P.underlying e with
    | some (.int .u8) => (aStringToBytes P H e s).map fun r => .val r.1 r.2
    | _ => none
  | some .string, some .string, .string s => some (.val (.string s) H)
  | some (.slice _), some (.slice e), .slice (some a) n k => if src == dst then (match P.underlying e, H.get a.block with
    | some (.int .u8), some (.arr _ _ false) => some (.val (.slice (some a) n k) H)
    | _, _ => none) else none
  | some (.int _), some _, x => if closed x then (match pureC P (convert src dst x) with
    | some (.ok v) => some (.val v H)
    | _ => none) else none
  | _, _, _ => none
theorem aConvert_sim (h : HR P w0 ρ H w) {src dst : TypeId} {x x' : Value} {r : ERes} (hx : VR ρ x x') (hr : aConvert P H src dst x = some r) :
    ∃ v H', r = .val v H' ∧ SV P w0 ρ (convert src dst x') w (v, H') := by
  unfold aConvert at hr
  split at hr <;> try cases hr
  · rename_i e hu hd
    split at hr <;> try cases hr
    rename_i he
    split at hr <;> try cases hr
    rename_i b n k
    rw [Option.map_eq_some_iff] at hr
    obtain ⟨v, hv, rfl⟩ := hr
    obtain ⟨v', s1, s2⟩ := aBytesToString_sim h hx hv
    refine ⟨v, H, rfl, SV.pure h ?_ s2⟩
    obtain ⟨b', c, rfl, _⟩ := hx.slice_shape
    rw [run_convert_bytes_string w src dst e b' n c hu he hd]
    exact s1
  · rename_i e s hu hd
    split at hr <;> try cases hr
    rename_i he
    rw [Option.map_eq_some_iff] at hr
    obtain ⟨v, hv, rfl⟩ := hr
    cases hx.string_inv
    obtain ⟨v', w', ρ', s1, s2⟩ := aStringToBytes_sim h hv
    refine ⟨v.1, v.2, rfl, v', w', ρ', ?_, s2⟩
    simp only [convert, Sem.run_bind, run_underlying hu, run_underlying hd, Result.andThen_ok, run_underlying he, s1]
  · rename_i s hu hd
    cases hx.string_inv
    refine ⟨_, H, rfl, SV.pure h ?_ hx⟩
    simp only [convert, Sem.run_bind, run_underlying hu, run_underlying hd, Result.andThen_ok, Sem.run_pure]
  · rename_i e0 e a n k hu hd
    split at hr <;> try cases hr
    rename_i hsd
    split at hr <;> cases hr
    rename_i c e' he hg
    obtain ⟨b, c', hs, rfl⟩ := hx.slice_inv
    have hs' := hs
    obtain ⟨l, hl, _, hbb, hbs, _⟩ := hs
    obtain ⟨w', q1, q2⟩ := h.markStringish hl hg b.off
    refine ⟨_, H, rfl, .slice (some b) n c', w', ρ, ?_, Ren.le_refl ρ, q2, VR.mk_slice hs'⟩
    obtain ⟨bb, bo, bs⟩ := b
    simp only at hbb hbs q1
    subst hbb; subst hbs
    simp only [convert, Sem.run_bind, run_underlying hu, run_underlying hd, Result.andThen_ok, run_underlying he, hsd, q1, Sem.run_pure]
  · split at hr <;> try cases hr
    rename_i hc
    cases VR.eq_of_closed hc hx
    split at hr <;> cases hr
    rename_i v hv
    obtain ⟨v', s1, s2⟩ := pureC_sim hv ρ w
    exact ⟨v, H, rfl, SV.pure h s1 s2⟩

def aMakeInterface (P : Program) (t : TypeId) (x : Value) : Option Value :=
  match P.underlying t with
  | some (.interface _) | none => none
  | some _ => some (.iface t x)
theorem aMakeInterface_sim {t : TypeId} {x x' v : Value} (hx : VR ρ x x') (hr : aMakeInterface P t x = some v) (w : World) : ∃ v', (Instr.makeInterface t x').run P w = .ok v' w ∧ VR ρ v v' := by
  unfold aMakeInterface at hr
  split at hr <;> cases hr
  rename_i d hn hd
  refine ⟨.iface t x', ?_, by simp only [VR]; exact ⟨x', hx, rfl⟩⟩
  simp only [Instr.makeInterface, Sem.run_bind, run_underlying hd, Result.andThen_ok]
  cases d <;> first | rfl | simp_all

def aZeroV (P : Program) (t : TypeId) : Option Value :=
  match P.info? t with
  | some d => match d.zero with
    | some z => if closed z then some z else none
    | none => none
  | none => none
theorem aZeroV_sim {t : TypeId} {v : Value} (h : aZeroV P t = some v) (w : World) : (zeroValue t).run P w = .ok v w ∧ VR ρ v v := by
  unfold aZeroV at h
  split at h <;> try cases h
  rename_i d hd
  split at h <;> try cases h
  rename_i z hz
  split at h <;> cases h
  rename_i hc
  exact ⟨run_zeroValue hd hz w, VR.of_closed ρ hc⟩
def aTypeAssert (P : Program) (x : Value) (asserted : TypeId) (ok : Bool) : Option Value :=
  let holds (v : Value) : Option Value := some (if ok then .tuple ⟨[v, .bool true]⟩ else v)
  let fails : Option Value := if ok then (aZeroV P asserted).map fun z => .tuple ⟨[z, .bool false]⟩ else none
  match P.underlying asserted, x with
  | some (.interface _), .nilIface => fails
  | some (.interface want), .iface t v => match P.info? t with
    | some d => match Instr.missingMethod want d.methods with
      | none => holds (.iface t v)
      | some _ => fails
    | none => none
  | some _, .nilIface => fails
  | some _, .iface t v => if t = asserted then holds v else fails
  | _, _ => none
theorem aTypeAssert_sim {x x' v : Value} {xt asserted : TypeId} {ok : Bool} (hx : VR ρ x x') (hr : aTypeAssert P x asserted ok = some v) (w : World) :
    ∃ v', (Instr.typeAssert x' xt asserted ok).run P w = .ok v' w ∧ VR ρ v v' := by
  have hholds : ∀ {a a' : Value}, VR ρ a a' → VR ρ (if ok then .tuple ⟨[a, .bool true]⟩ else a) (if ok then .tuple #[a', .bool true] else a') := by
    intro a a' h
    cases ok
    · simpa using h
    · simp only [if_true, VR]; exact ⟨[a', .bool true], VRL.cons h (VRL.cons (by simp [VR]) (by simp [VRL])), rfl⟩
  have hfails : ∀ {r : Value}, (if ok then (aZeroV P asserted).map fun z => Value.tuple ⟨[z, .bool false]⟩ else none) = some r →
      ok = true ∧ ∃ z, (zeroValue asserted).run P w = .ok z w ∧ VR ρ r (.tuple #[z, .bool false]) := by
    intro r h
    cases ok
    · cases h
    · simp only [if_true] at h
      rw [Option.map_eq_some_iff] at h
      obtain ⟨z, hz, rfl⟩ := h
      obtain ⟨s1, s2⟩ := aZeroV_sim (ρ := ρ) hz w
      refine ⟨rfl, z, s1, ?_⟩
      simp only [VR]; exact ⟨[z, .bool false], VRL.cons s2 (VRL.cons (by simp [VR]) (by simp [VRL])), rfl⟩
  unfold aTypeAssert at hr
  dsimp only at hr
  split at hr
  · rename_i hu
    cases hx.nilIface_inv
    obtain ⟨rfl, z, s1, s2⟩ := hfails hr
    refine ⟨_, ?_, s2⟩
    simp only [Instr.typeAssert, Sem.run_bind, run_underlying hu, Result.andThen_ok, if_true, s1, Sem.run_pure]
  · rename_i want t u hu
    obtain ⟨u', hu', rfl⟩ := hx.iface_inv
    split at hr <;> try cases hr
    rename_i d hd
    split at hr
    · rename_i hm
      cases hr
      refine ⟨_, ?_, hholds hx⟩
      simp only [Instr.typeAssert, Sem.run_bind, run_underlying hu, Result.andThen_ok, run_typeInfo hd, hm, Sem.run_pure]
    · rename_i m hm
      obtain ⟨rfl, z, s1, s2⟩ := hfails hr
      refine ⟨_, ?_, s2⟩
      simp only [Instr.typeAssert, Sem.run_bind, run_underlying hu, Result.andThen_ok, run_typeInfo hd, hm, if_true, s1, Sem.run_pure]
  · rename_i dd hni hu
    cases hx.nilIface_inv
    obtain ⟨rfl, z, s1, s2⟩ := hfails hr
    refine ⟨_, ?_, s2⟩
    simp only [Instr.typeAssert, Sem.run_bind, run_underlying hu, Result.andThen_ok]
    cases dd <;> simp_all []
  · rename_i dd t u hni hu
    obtain ⟨u', hu', rfl⟩ := hx.iface_inv
    split at hr
    · rename_i ht
      cases hr
      refine ⟨_, ?_, hholds hu'⟩
      simp only [Instr.typeAssert, Sem.run_bind, run_underlying hu, Result.andThen_ok]
      cases dd <;> simp_all
    · rename_i ht
      obtain ⟨rfl, z, s1, s2⟩ := hfails hr
      refine ⟨_, ?_, s2⟩
      simp only [Instr.typeAssert, Sem.run_bind, run_underlying hu, Result.andThen_ok]
      cases dd <;> simp_all []
  · cases hr
def aExtract (x : Value) (i : Nat) : Option Value :=
  match x with
  | .tuple vs => vs.toList[i]?
  | _ => none
theorem aExtract_sim {x x' v : Value} {i : Nat} (hx : VR ρ x x') (hr : aExtract x i = some v) (w : World) : ∃ v', (Instr.extract x' i).run P w = .ok v' w ∧ VR ρ v v' := by
  unfold aExtract at hr
  split at hr <;> try cases hr
  obtain ⟨ys, rfl, hl⟩ := hx.tuple_inv
  obtain ⟨y, hy, hv⟩ := hl.get hr
  refine ⟨y, ?_, hv⟩
  simp [Instr.extract, hy]
end Go.Mt
/- Abstract operations, part 8: maps and iterators. -/
namespace Go.Mt
variable {P : Program} {w0 : Base} {w w' : World} {ρ : Ren} {H : AH}

def Obj.noCells : Obj → Bool
  | .cells .. => false
  | _ => true
theorem run_getObj_at {r : Nat} {o : Obj} (h : w.heap[r]? = some o) (ho : Obj.noCells o = true) : (getObj r).run P w = .ok o w := by
  simp only [getObj, Sem.run, h]
  cases o <;> simp_all [Obj.noCells]
theorem run_setObj_at {r : Nat} {o : Obj} (h : w.heap[r]? = some o) (ho : Obj.noCells o = true) (y : Obj) : (setObj r y).run P w = .ok () { w with heap := w.heap.setIfInBounds r y } := by
  simp only [setObj, Sem.run, h]
  cases o <;> simp_all [Obj.noCells]
theorem OR.noCells {x y : Obj} (h : OR ρ x y) : Obj.noCells y = true := by
  cases x <;> first
    | (obtain ⟨_, _, rfl⟩ := h; rfl)
    | (simp [OR] at h; done)
    | (cases h; rfl)
    | (rename_i a _ _ _; cases a <;> first | (cases h; rfl) | (obtain ⟨_, _, _, rfl⟩ := h; rfl))
    | (rename_i a; cases a <;> first | (cases h; rfl) | (rename_i b; cases b <;> first | (cases h; rfl) | exact h.elim))
theorem HR.obj (h : HR P w0 ρ H w) {b : Nat} {l : Loc} {o : Obj} (hb : ρ b = some l) (hx : H.get b = some (.obj o)) : ∃ o', w.heap[l.blk]? = some o' ∧ OR ρ o o' ∧ l.base = 0 := h.lv b l _ hb hx
theorem setObj_sim (h : HR P w0 ρ H w) {b : Nat} {l : Loc} {o : Obj} {y y' : Obj} (hb : ρ b = some l) (hx : H.get b = some (.obj o)) (hy : OR ρ y y') :
    ∃ w', (setObj l.blk y').run P w = .ok () w' ∧ HR P w0 ρ (H.set b (.obj y)) w' := by
  obtain ⟨o', h1, h2, h3⟩ := h.obj hb hx
  refine ⟨_, run_setObj_at h1 h2.noCells y', ?_⟩
  refine h.update hb hx rfl (by simp) (fun i hi => by simp [Ne.symm hi]) rfl rfl rfl ?_
  refine ⟨y', ?_, hy, h3⟩
  have : l.blk < w.heap.size := (Array.getElem?_eq_some_iff.1 h1).1
  simp [this]
theorem newObj_sim (h : HR P w0 ρ H w) {y y' : Obj} (hy : OR ρ y y') :
    ∃ l, (newObj y').run P w = .ok l.blk { w with heap := w.heap.push y' } ∧ l.base = 0 ∧ ρ.le (ρ.upd H.next l) ∧ HR P w0 (ρ.upd H.next l) (H.new (.obj y)) { w with heap := w.heap.push y' } := by
  have hn : ρ H.next = none := h.dom _ (Nat.le_refl _)
  refine ⟨⟨w.heap.size, 0, 0, 0⟩, rfl, rfl, ?_⟩
  exact h.new (o := y') rfl rfl rfl rfl rfl ⟨y', by simp, hy.mono (Ren.le_upd hn), rfl⟩

/-! finding a key -/
def aKeyEq (P : Program) (kt : TypeId) (k e : Value) : Option Bool :=
  if closed k && closed e then (match pureRun P (Op.equal kt k e) with
    | some (.ok b) => some b
    | _ => none) else none
def aFind (P : Program) (kt : TypeId) (k : Value) : List MapEntry → Nat → Option (Option (Nat × Value))
  | [], _ => some none
  | e :: es, i => match aKeyEq P kt k e.key with
    | some true => some (some (i, e.val))
    | some false => aFind P kt k es (i + 1)
    | none => none
def PairR (ρ : Ren) : Option (Nat × Value) → Option (Nat × Value) → Prop
  | none, none => True
  | some (i, v), some (j, u) => i = j ∧ VR ρ v u
  | _, _ => False
theorem sameNow_eq {kt : TypeId} {d : TypeDesc} (hd : P.underlying kt = some d) {k e : Value} {b b' : Bool} (h : Instr.sameNow d k e = some b) (h' : pureRun P (Op.equal kt k e) = some (.ok b')) : b = b' := by
  have hr := pureRun_ok h' (default : World)
  rw [equal_at] at hr
  generalize 9999 = n at hr
  unfold Instr.sameNow at h
  split at h
  · rename_i x a y c
    split at h <;> cases h
    rename_i he
    simp [Op.equalIn, run_underlying hd, he] at hr
    exact hr
  · cases h
    simp [Op.equalIn, run_underlying hd] at hr; exact hr
  · cases h
    simp [Op.equalIn, run_underlying hd] at hr; exact hr
  · cases h
theorem aFind_asking {kt : TypeId} {k : Value} : ∀ {es es' : List MapEntry} {i : Nat} {r : Option (Nat × Value)}, MERL ρ es es' → aFind P kt k es i = some r →
    (∃ r', (Instr.findAsking kt k es' i).run P w = .ok r' w ∧ PairR ρ r r') ∧ (∀ d q, P.underlying kt = some d → Instr.findNow d k es' i = some q → PairR ρ r q)
  | [], es', i, r, hm, hr => by
    simp only [MERL] at hm; subst hm
    simp only [aFind, Option.some.injEq] at hr; subst hr
    exact ⟨⟨none, rfl, trivial⟩, fun d q _ hq => by simp [Instr.findNow] at hq; subst hq; trivial⟩
  | e :: es, es', i, r, hm, hr => by
    obtain ⟨e', t', h1, h2, rfl⟩ := hm
    simp only [aFind] at hr
    have hk : ∀ b, aKeyEq P kt k e.key = some b → pureRun P (Op.equal kt k e'.key) = some (.ok b) := by
      intro b hb
      unfold aKeyEq at hb
      split at hb <;> try cases hb
      rename_i hc
      simp only [Bool.and_eq_true] at hc
      rw [VR.eq_of_closed hc.2 h1.key]
      split at hb <;> cases hb
      assumption
    split at hr
    · rename_i he
      cases hr
      have hp := hk _ he
      refine ⟨⟨some (i, e'.val), ?_, rfl, h1.val⟩, fun d q hd hq => ?_⟩
      · simp only [Instr.findAsking, Sem.run_bind, pureRun_ok hp w, Result.andThen_ok, if_true, Sem.run_pure]
      · simp only [Instr.findNow] at hq
        split at hq
        · cases hq; exact ⟨rfl, h1.val⟩
        · rename_i hs; cases sameNow_eq hd hs hp
        · cases hq
    · rename_i he
      have hp := hk _ he
      obtain ⟨⟨r', s1, s2⟩, s3⟩ := aFind_asking h2 hr
      refine ⟨⟨r', ?_, s2⟩, fun d q hd hq => ?_⟩
      · simp only [Instr.findAsking, Sem.run_bind, pureRun_ok hp w, Result.andThen_ok, Bool.false_eq_true, if_false, s1]
      · simp only [Instr.findNow] at hq
        split at hq
        · rename_i hs; cases sameNow_eq hd hs hp
        · exact s3 d q hd hq
        · cases hq
    · cases hr
theorem aFind_sim {kt : TypeId} {k : Value} {es es' : List MapEntry} {r : Option (Nat × Value)} (hu : (P.underlying kt).isSome = true) (hm : MERL ρ es es') (hr : aFind P kt k es 0 = some r) (w : World) :
    ∃ r', (Instr.findKey kt k es').run P w = .ok r' w ∧ PairR ρ r r' := by
  obtain ⟨d, hd⟩ := Option.isSome_iff_exists.1 hu
  obtain ⟨⟨r', s1, s2⟩, s3⟩ := aFind_asking (w := w) hm hr
  simp only [Instr.findKey, Sem.run_bind, run_underlying hd, Result.andThen_ok]
  cases hq : Instr.findNow d k es' 0 with
  | some q => exact ⟨q, rfl, s3 d q hd hq⟩
  | none => exact ⟨r', s1, s2⟩

theorem MERL.length {es es' : List MapEntry} (h : MERL ρ es es') : es.length = es'.length := by
  induction es generalizing es' with
  | nil => simp only [MERL] at h; simp [h]
  | cons e es ih => obtain ⟨e', t', _, h2, rfl⟩ := h; simp [ih h2]
theorem MERL.iff {es es' : List MapEntry} : MERL ρ es es' ↔ es.length = es'.length ∧ ∀ (i : Nat) (e e' : MapEntry), es[i]? = some e → es'[i]? = some e' → MER ρ e e' := by
  induction es generalizing es' with
  | nil => simp only [MERL]; constructor
           · rintro rfl; simp
           · rintro ⟨h, _⟩; simpa using h.symm
  | cons e es ih =>
    constructor
    · rintro ⟨e', t', h1, h2, rfl⟩
      have := ih.1 h2
      refine ⟨by simp [this.1], fun i a b ha hb => ?_⟩
      cases i with
      | zero => simp at ha hb; subst ha; subst hb; exact h1
      | succ i => simp at ha hb; exact this.2 i a b ha hb
    · rintro ⟨h1, h2⟩
      cases es' with
      | nil => simp at h1
      | cons e' t' => exact ⟨e', t', h2 0 e e' rfl rfl, ih.2 ⟨by simpa using h1, fun i a b ha hb => h2 (i + 1) a b (by simpa using ha) (by simpa using hb)⟩, rfl⟩
theorem MERL.get {es es' : List MapEntry} (h : MERL ρ es es') {i : Nat} {e : MapEntry} (he : es[i]? = some e) : ∃ e', es'[i]? = some e' ∧ MER ρ e e' := by
  have hl := h.length
  have : i < es'.length := by have := (List.getElem?_eq_some_iff.1 he).1; omega
  exact ⟨es'[i], List.getElem?_eq_getElem this, (MERL.iff.1 h).2 i e _ he (List.getElem?_eq_getElem this)⟩

/-- a map's entries, and its clock. -/
noncomputable def mapOf (H : AH) (r : Nat) : Option (Array MapEntry × Nat) :=
  match H.get r with
  | some (.obj (.map es c)) => some (es, c)
  | _ => none
theorem mapOf_spec {r : Nat} {es : Array MapEntry} {c : Nat} (h : mapOf H r = some (es, c)) : H.get r = some (.obj (.map es c)) := by
  unfold mapOf at h; split at h <;> cases h; assumption
theorem HR.map (h : HR P w0 ρ H w) {r : Nat} {es : Array MapEntry} {c : Nat} {l : Loc} (hr : ρ r = some l) (hm : mapOf H r = some (es, c)) :
    ∃ es', w.heap[l.blk]? = some (.map es' c) ∧ MERL ρ es.toList es'.toList := by
  obtain ⟨o', h1, ⟨es', h2, rfl⟩, h3⟩ := h.obj hr (mapOf_spec hm)
  exact ⟨es', h1, h2⟩
theorem VR.map_inv {r : Nat} {y : Value} (h : VR ρ (.map (some r)) y) : ∃ l, ρ r = some l ∧ l.base = 0 ∧ y = .map (some l.blk) := by simpa only [VR] using h

noncomputable def aLookup (P : Program) (H : AH) (t : TypeId) (x k : Value) (ok : Bool) : Option Value :=
  match P.underlying t with
  | some (.map kt et) => if closed k && (P.underlying kt).isSome then
      (match x with
      | .map none => match pureRun P (Instr.checkKey true 10000 kt k) with
        | some (.ok ()) => (aZeroV P et).map fun z => if ok then .tuple ⟨[z, .bool false]⟩ else z
        | _ => none
      | .map (some r) => match mapOf H r with
        | some (es, _) => match pureRun P (Instr.checkKey es.isEmpty 10000 kt k) with
          | some (.ok ()) => match aFind P kt k es.toList 0 with
            | some (some (_, v)) => some (if ok then .tuple ⟨[v, .bool true]⟩ else v)
            | some none => (aZeroV P et).map fun z => if ok then .tuple ⟨[z, .bool false]⟩ else z
            | none => none
          | _ => none
        | none => none
      | _ => none) else none
  | _ => none
theorem VR.pairOk {v u : Value} (h : VR ρ v u) (ok b : Bool) : VR ρ (if ok then .tuple ⟨[v, .bool b]⟩ else v) (if ok then .tuple #[u, .bool b] else u) := by
  cases ok
  · simpa using h
  · simp only [if_true, VR]; exact ⟨[u, .bool b], VRL.cons h (VRL.cons (by simp [VR]) (by simp [VRL])), rfl⟩
theorem aLookup_sim (h : HR P w0 ρ H w) {t : TypeId} {x x' k k' v : Value} {ok : Bool} (hx : VR ρ x x') (hk : VR ρ k k') (hr : aLookup P H t x k ok = some v) :
    ∃ v', (Instr.lookup t x' k' ok).run P w = .ok v' w ∧ VR ρ v v' := by
  unfold aLookup at hr
  split at hr <;> try cases hr
  rename_i kt et hu
  split at hr <;> try cases hr
  rename_i hc
  simp only [Bool.and_eq_true] at hc
  cases VR.eq_of_closed hc.1 hk
  split at hr <;> try cases hr
  · cases (show x' = .map none by simpa only [VR] using hx)
    split at hr <;> try cases hr
    rename_i hck
    rw [Option.map_eq_some_iff] at hr
    obtain ⟨z, hz, rfl⟩ := hr
    obtain ⟨s1, s2⟩ := aZeroV_sim (ρ := ρ) hz w
    refine ⟨_, ?_, s2.pairOk ok false⟩
    obtain ⟨dk, hdk⟩ := Option.isSome_iff_exists.1 hc.2
    simp only [Instr.lookup, Sem.run_bind, run_underlying hu, Result.andThen_ok, Sem.run_pure]
    rw [show (#[] : Array MapEntry).isEmpty = true from rfl, pureRun_ok hck w]
    simp only [Result.andThen_ok, Instr.findKey, Sem.run_bind, run_underlying hdk, Instr.findNow, Sem.run_pure, s1]
  · rename_i r
    obtain ⟨l, hl, _, rfl⟩ := hx.map_inv
    split at hr <;> try cases hr
    rename_i es c hm
    obtain ⟨es', h1, h2⟩ := h.map hl hm
    split at hr <;> try cases hr
    rename_i hck
    have hemp : es'.isEmpty = es.isEmpty := by
      have := h2.length
      simp only [Array.length_toList] at this
      simp only [Array.isEmpty, this]
    have hbase : ∀ q : Option (Nat × Value), (Instr.findKey kt k es'.toList).run P w = .ok q w → (Instr.lookup t (.map (some l.blk)) k ok).run P w =
        ((match q with
          | some (_, v) => pure (v, true)
          | none => do pure (← zeroValue et, false) : Sem (Value × Bool)).run P w).andThen fun p w' => .ok (if ok then .tuple #[p.1, .bool p.2] else p.1) w' := by
      intro q hq
      simp only [Instr.lookup, Sem.run_bind, run_underlying hu, Result.andThen_ok, run_getObj_at h1 rfl, Sem.run_pure]
      rw [hemp, pureRun_ok hck w]
      simp only [Result.andThen_ok, hq]
      cases q with
      | some p => rfl
      | none =>
        simp only [Sem.run_bind]
        cases (zeroValue et).run P w <;> rfl
    split at hr <;> try cases hr
    · rename_i i v hf
      obtain ⟨r', s1, s2⟩ := aFind_sim hc.2 h2 hf w
      cases r' with
      | none => exact s2.elim
      | some p =>
        obtain ⟨j, u⟩ := p
        refine ⟨_, ?_, s2.2.pairOk ok true⟩
        rw [hbase _ s1]; rfl
    · rename_i hf
      rw [Option.map_eq_some_iff] at hr
      obtain ⟨z, hz, rfl⟩ := hr
      obtain ⟨t1, t2⟩ := aZeroV_sim (ρ := ρ) hz w
      obtain ⟨r', s1, s2⟩ := aFind_sim hc.2 h2 hf w
      cases r' with
      | some p => exact s2.elim
      | none =>
        refine ⟨_, ?_, t2.pairOk ok false⟩
        rw [hbase _ s1]
        simp only [Sem.run_bind, t1, Result.andThen_ok, Sem.run_pure]
end Go.Mt
/- Abstract operations, part 9: maps written, ranged over; len, min, max, clear, delete. -/
namespace Go.Mt
variable {P : Program} {w0 : Base} {w w' : World} {ρ : Ren} {H : AH}

noncomputable def aMakeMap (P : Program) (H : AH) (t : TypeId) (r : Option Value) : OV :=
  match r with
  | none => some (.map (some H.next), H.new (.obj (.map #[] 0)))
  | some (.int _ _) => match P.underlying t with
    | some (.map _ _) => some (.map (some H.next), H.new (.obj (.map #[] 0)))
    | _ => none
  | _ => none
theorem VR.mk_map {b : Nat} {l : Loc} (h : ρ b = some l) (hb : l.base = 0) : VR ρ (.map (some b)) (.map (some l.blk)) := by simp only [VR]; exact ⟨l, h, hb, rfl⟩
theorem aMakeMap_sim (h : HR P w0 ρ H w) {t : TypeId} {r r' : Option Value} {q : Value × AH} (hr' : ∀ v, r = some v → ∃ v', r' = some v' ∧ VR ρ v v') (hn : r = none → r' = none) (hr : aMakeMap P H t r = some q) : SV P w0 ρ (Instr.makeMap t r') w q := by
  obtain ⟨l, s1, s2, s3, s4⟩ := newObj_sim (P := P) h (y := .map #[] 0) (y' := .map #[] 0) ⟨#[], by simp [MERL], rfl⟩
  unfold aMakeMap at hr
  split at hr <;> try cases hr
  · rw [hn rfl]
    refine ⟨_, _, _, ?_, s3, s4, VR.mk_map (Ren.upd_same _ _ _) s2⟩
    simp only [Instr.makeMap, Sem.run_bind, s1, Result.andThen_ok, Sem.run_pure]
  · rename_i k n
    obtain ⟨v', rfl, hv⟩ := hr' _ rfl
    cases hv.int_inv
    split at hr <;> cases hr
    rename_i kt et hu
    refine ⟨_, _, _, ?_, s3, s4, VR.mk_map (Ren.upd_same _ _ _) s2⟩
    simp only [Instr.makeMap, Sem.run_bind, run_underlying hu, Result.andThen_ok, asInt, asIntOf, Sem.run_pure, s1]

/-- the entries behind a store. -/
def aPut (P : Program) (kt : TypeId) (k v : Value) (es : Array MapEntry) (c : Nat) : Option (Array MapEntry × Nat) :=
  match pureRun P (Instr.checkKey false 10000 kt k) with
  | some (.ok ()) => match aFind P kt k es.toList 0 with
    | some (some (i, _)) => match es.toList[i]? with
      | some e => if Instr.sameBits 10000 e.key k then some (⟨es.toList.set i ⟨k, v, e.born⟩⟩, c) else none
      | none => none
    | some none => some (⟨es.toList ++ [⟨k, v, c⟩]⟩, c + 1)
    | none => none
  | _ => none
noncomputable def aMapUpdate (P : Program) (H : AH) (t : TypeId) (m k v : Value) : Option AH :=
  match P.underlying t, m with
  | some (.map kt _), .map (some r) => if closed k && (P.underlying kt).isSome then (match mapOf H r with
      | some (es, c) => (aPut P kt k v es c).map fun q => H.set r (.obj (.map q.1 q.2))
      | none => none) else none
  | _, _ => none
theorem modify_list (es : Array MapEntry) (i : Nat) (f : MapEntry → MapEntry) {e : MapEntry} (h : es.toList[i]? = some e) : es.modify i f = ⟨es.toList.set i (f e)⟩ := by
  apply Array.toList_inj.1
  apply List.ext_getElem?
  intro j
  have hi : i < es.size := (List.getElem?_eq_some_iff.1 h).1
  rw [Array.getElem?_toList, Array.getElem?_modify, List.getElem?_set]
  have h' : es[i]? = some e := by rw [← Array.getElem?_toList]; exact h
  by_cases hj : i = j
  · subst hj
    have : es[i] = e := by rw [Array.getElem?_eq_getElem hi] at h'; exact Option.some.inj h'
    simp [hi, this]
  · simp [hj]
theorem MERL.set {es es' : List MapEntry} {e e' : MapEntry} (i : Nat) (he : MER ρ e e') (h : MERL ρ es es') : MERL ρ (es.set i e) (es'.set i e') := by
  rw [MERL.iff] at *
  refine ⟨by simp [h.1], fun j x y hx hy => ?_⟩
  rw [List.getElem?_set] at hx hy
  split at hx
  · split at hx <;> simp_all
  · simp_all; exact h.2 j x y hx hy
theorem MERL.snoc {es es' : List MapEntry} {e e' : MapEntry} (he : MER ρ e e') (h : MERL ρ es es') : MERL ρ (es ++ [e]) (es' ++ [e']) := by
  induction es generalizing es' with
  | nil => simp only [MERL] at h; subst h; exact ⟨e', [], he, rfl, rfl⟩
  | cons x xs ih => obtain ⟨y, ys, h1, h2, rfl⟩ := h; exact ⟨y, ys ++ [e'], h1, ih h2, rfl⟩
theorem aFind_at {kt : TypeId} {k : Value} : ∀ {es : List MapEntry} {i j : Nat} {v : Value}, aFind P kt k es i = some (some (j, v)) → i ≤ j ∧ ∃ e, es[j - i]? = some e ∧ e.val = v ∧ aKeyEq P kt k e.key = some true
  | [], i, j, v, h => by simp [aFind] at h
  | e :: es, i, j, v, h => by
    simp only [aFind] at h
    split at h
    · rename_i he; cases h; exact ⟨Nat.le_refl _, e, by simp, rfl, he⟩
    · obtain ⟨h1, e', h2, h3⟩ := aFind_at h
      refine ⟨by omega, e', ?_, h3⟩
      rw [show j - i = (j - (i + 1)) + 1 by omega]; simpa using h2
    · cases h

theorem run_keyThatStays {a b : Value} (h : Instr.sameBits 10000 a b = true) (w : World) : (Instr.keyThatStays a b).run P w = .ok b w := by
  simp only [Instr.keyThatStays, h, if_true, Sem.run_pure]
theorem aMapUpdate_sim (h : HR P w0 ρ H w) {t : TypeId} {m m' k k' v v' : Value} {H' : AH} (hm : VR ρ m m') (hk : VR ρ k k') (hv : VR ρ v v') (hr : aMapUpdate P H t m k v = some H') :
    ∃ w', (Instr.mapUpdate t m' k' v').run P w = .ok () w' ∧ HR P w0 ρ H' w' := by
  unfold aMapUpdate at hr
  split at hr <;> try cases hr
  rename_i kt et r hu
  split at hr <;> try cases hr
  rename_i hc
  simp only [Bool.and_eq_true] at hc
  cases VR.eq_of_closed hc.1 hk
  split at hr <;> try cases hr
  rename_i es c hmo
  rw [Option.map_eq_some_iff] at hr
  obtain ⟨q, hq, rfl⟩ := hr
  obtain ⟨l, hl, _, rfl⟩ := hm.map_inv
  obtain ⟨es', h1, h2⟩ := h.map hl hmo
  unfold aPut at hq
  split at hq <;> try cases hq
  rename_i hck
  have hpre : (Instr.mapUpdate t (.map (some l.blk)) k v').run P w = (do
      match ← Instr.findKey kt k es'.toList with
      | some (i, _) => do
        let key ← Instr.keyThatStays (((es'[i]?).map (·.key)).getD k) k
        setObj l.blk (.map (es'.modify i fun e => { e with key, val := v' }) c)
      | none => setObj l.blk (.map (es'.push { key := k, val := v', born := c }) (c + 1)) : Sem Unit).run P w := by
    simp only [Instr.mapUpdate, Sem.run_bind, run_underlying hu, Result.andThen_ok, run_getObj_at h1 rfl, pureRun_ok hck w]
    congr 1
  split at hq <;> try cases hq
  · rename_i i u hf
    split at hq <;> try cases hq
    rename_i e he
    split at hq <;> cases hq
    rename_i hsb
    obtain ⟨r', s1, s2⟩ := aFind_sim hc.2 h2 hf w
    obtain ⟨e', he', hee⟩ := h2.get he
    cases r' with
    | none => exact s2.elim
    | some p =>
      obtain ⟨j, u'⟩ := p
      obtain ⟨rfl, _⟩ := s2
      have hke : e'.key = e.key := by
        obtain ⟨_, e2, g1, _, g3⟩ := aFind_at hf
        simp only [Nat.sub_zero] at g1
        rw [he] at g1; cases g1
        unfold aKeyEq at g3
        split at g3 <;> try cases g3
        rename_i hcc
        simp only [Bool.and_eq_true] at hcc
        exact VR.eq_of_closed hcc.2 hee.key
      have hes : es'[i]? = some e' := by rw [← Array.getElem?_toList]; exact he'
      obtain ⟨w', t1, t2⟩ := setObj_sim (P := P) h hl (mapOf_spec hmo) (y := .map ⟨es.toList.set i ⟨k, v, e.born⟩⟩ c) (y' := .map ⟨es'.toList.set i ⟨k, v', e'.born⟩⟩ c)
        ⟨_, MERL.set (e' := ⟨k, v', e'.born⟩) i ⟨hk, hv, hee.born⟩ h2, rfl⟩
      refine ⟨w', ?_, t2⟩
      rw [hpre]
      simp only [Sem.run_bind, s1, Result.andThen_ok, hes, Option.map_some, Option.getD_some, hke, run_keyThatStays hsb]
      rw [modify_list es' i _ he']
      exact t1
  · rename_i hf
    obtain ⟨r', s1, s2⟩ := aFind_sim hc.2 h2 hf w
    cases r' with
    | some p => exact s2.elim
    | none =>
      obtain ⟨w', t1, t2⟩ := setObj_sim (P := P) h hl (mapOf_spec hmo) (y := .map ⟨es.toList ++ [⟨k, v, c⟩]⟩ (c + 1)) (y' := .map (es'.push ⟨k, v', c⟩) (c + 1))
        ⟨_, by simp only [Array.toList_push]; exact MERL.snoc ⟨hk, hv, rfl⟩ h2, rfl⟩
      refine ⟨w', ?_, t2⟩
      rw [hpre]
      simp only [Sem.run_bind, s1, Result.andThen_ok]
      exact t1

noncomputable def aMapEntry (P : Program) (H : AH) (t : TypeId) (m k : Value) : OV :=
  match P.underlying t, m with
  | some (.map kt et), .map (some r) => if closed k && (P.underlying kt).isSome then (match mapOf H r with
      | some (es, c) => match pureRun P (Instr.checkKey false 10000 kt k) with
        | some (.ok ()) => match aFind P kt k es.toList 0 with
          | some (some (i, v)) => match es.toList[i]? with
            | some e => if Instr.sameBits 10000 e.key k then some (.tuple ⟨[v, .int .i64 e.born]⟩, H.set r (.obj (.map ⟨es.toList.set i ⟨k, e.val, e.born⟩⟩ c))) else none
            | none => none
          | some none => (aZeroV P et).map fun z => (.tuple ⟨[z, .int .i64 c]⟩, H.set r (.obj (.map ⟨es.toList ++ [⟨k, z, c⟩]⟩ (c + 1))))
          | none => none
        | _ => none
      | none => none) else none
  | _, _ => none
theorem aMapEntry_sim (h : HR P w0 ρ H w) {t : TypeId} {m m' k k' : Value} {r : Value × AH} (hm : VR ρ m m') (hk : VR ρ k k') (hr : aMapEntry P H t m k = some r) : SV P w0 ρ (Instr.mapEntry t m' k') w r := by
  unfold aMapEntry at hr
  split at hr <;> try cases hr
  rename_i kt et r hu
  split at hr <;> try cases hr
  rename_i hc
  simp only [Bool.and_eq_true] at hc
  cases VR.eq_of_closed hc.1 hk
  split at hr <;> try cases hr
  rename_i es c hmo
  split at hr <;> try cases hr
  rename_i hck
  obtain ⟨l, hl, _, rfl⟩ := hm.map_inv
  obtain ⟨es', h1, h2⟩ := h.map hl hmo
  have hpre : (Instr.mapEntry t (.map (some l.blk)) k).run P w = (do
      match ← Instr.findKey kt k es'.toList with
      | some (i, v) =>
        let key ← Instr.keyThatStays (((es'[i]?).map (·.key)).getD k) k
        setObj l.blk (.map (es'.modify i fun e => { e with key }) c)
        pure (.tuple #[v, goInt (((es'[i]?).map (·.born)).getD 0)])
      | none =>
        let zero ← zeroValue et
        setObj l.blk (.map (es'.push { key := k, val := zero, born := c }) (c + 1))
        pure (.tuple #[zero, goInt c]) : Sem Value).run P w := by
    simp only [Instr.mapEntry, Sem.run_bind, run_underlying hu, Result.andThen_ok, run_getObj_at h1 rfl, pureRun_ok hck w]
    congr 1
  split at hr <;> try cases hr
  · rename_i i u hf
    split at hr <;> try cases hr
    rename_i e he
    split at hr <;> cases hr
    rename_i hsb
    obtain ⟨r', s1, s2⟩ := aFind_sim hc.2 h2 hf w
    obtain ⟨e', he', hee⟩ := h2.get he
    cases r' with
    | none => exact s2.elim
    | some p =>
      obtain ⟨j, u'⟩ := p
      obtain ⟨rfl, hu'⟩ := s2
      have hke : e'.key = e.key := by
        obtain ⟨_, e2, g1, _, g3⟩ := aFind_at hf
        simp only [Nat.sub_zero] at g1
        rw [he] at g1; cases g1
        unfold aKeyEq at g3
        split at g3 <;> try cases g3
        rename_i hcc
        simp only [Bool.and_eq_true] at hcc
        exact VR.eq_of_closed hcc.2 hee.key
      have hes : es'[i]? = some e' := by rw [← Array.getElem?_toList]; exact he'
      obtain ⟨w', t1, t2⟩ := setObj_sim (P := P) h hl (mapOf_spec hmo) (y := .map ⟨es.toList.set i ⟨k, e.val, e.born⟩⟩ c) (y' := .map ⟨es'.toList.set i ⟨k, e'.val, e'.born⟩⟩ c)
        ⟨_, MERL.set (e' := ⟨k, e'.val, e'.born⟩) i ⟨hk, hee.val, hee.born⟩ h2, rfl⟩
      refine ⟨.tuple #[u', goInt e'.born], w', ρ, ?_, Ren.le_refl ρ, t2, ?_⟩
      · rw [hpre]
        simp only [Sem.run_bind, s1, Result.andThen_ok, hes, Option.map_some, Option.getD_some, hke, run_keyThatStays hsb]
        rw [modify_list es' i _ he', t1]; rfl
      · simp only [VR]
        exact ⟨_, VRL.cons hu' (VRL.cons (by rw [hee.born]; simp only [VR]; rfl) (by simp [VRL])), rfl⟩
  · rename_i hf
    rw [Option.map_eq_some_iff] at hr
    obtain ⟨z, hz, rfl⟩ := hr
    obtain ⟨q1, q2⟩ := aZeroV_sim (ρ := ρ) hz w
    obtain ⟨r', s1, s2⟩ := aFind_sim hc.2 h2 hf w
    cases r' with
    | some p => exact s2.elim
    | none =>
      obtain ⟨w', t1, t2⟩ := setObj_sim (P := P) h hl (mapOf_spec hmo) (y := .map ⟨es.toList ++ [⟨k, z, c⟩]⟩ (c + 1)) (y' := .map (es'.push ⟨k, z, c⟩) (c + 1))
        ⟨_, by simp only [Array.toList_push]; exact MERL.snoc ⟨hk, q2, rfl⟩ h2, rfl⟩
      refine ⟨.tuple #[z, goInt c], w', ρ, ?_, Ren.le_refl ρ, t2, ?_⟩
      · rw [hpre]
        simp only [Sem.run_bind, s1, Result.andThen_ok, q1, t1]; rfl
      · simp only [VR]
        exact ⟨_, VRL.cons q2 (VRL.cons (by simp only [VR]; rfl) (by simp [VRL])), rfl⟩

noncomputable def aEntryStore (H : AH) (m stamp v : Value) : Option AH :=
  match m, stamp with
  | .map (some r), .int _ n => match mapOf H r with
    | some (es, c) => match es.toList.findIdx? (fun e => (e.born : Int) == n) with
      | some i => match es.toList[i]? with
        | some e => some (H.set r (.obj (.map ⟨es.toList.set i { e with val := v }⟩ c)))
        | none => none
      | none => none
    | none => none
  | _, _ => none
theorem MERL.findBorn {es es' : List MapEntry} (h : MERL ρ es es') (n : Int) : es'.findIdx? (fun e => (e.born : Int) == n) = es.findIdx? (fun e => (e.born : Int) == n) := by
  induction es generalizing es' with
  | nil => simp only [MERL] at h; subst h; rfl
  | cons e es ih =>
    obtain ⟨e', t', h1, h2, rfl⟩ := h
    simp only [List.findIdx?_cons, ih h2, h1.born]
theorem aEntryStore_sim (h : HR P w0 ρ H w) {t : TypeId} {m m' s s' v v' : Value} {H' : AH} (hm : VR ρ m m') (hs : VR ρ s s') (hv : VR ρ v v') (hr : aEntryStore H m s v = some H') :
    ∃ w', (Instr.entryStore t m' s' v').run P w = .ok () w' ∧ HR P w0 ρ H' w' := by
  unfold aEntryStore at hr
  split at hr <;> try cases hr
  rename_i r k n
  split at hr <;> try cases hr
  rename_i es c hmo
  split at hr <;> try cases hr
  rename_i i hi
  split at hr <;> cases hr
  rename_i e he
  obtain ⟨l, hl, _, rfl⟩ := hm.map_inv
  cases hs.int_inv
  obtain ⟨es', h1, h2⟩ := h.map hl hmo
  obtain ⟨e', he', hee⟩ := h2.get he
  obtain ⟨w', t1, t2⟩ := setObj_sim (P := P) h hl (mapOf_spec hmo) (y := .map ⟨es.toList.set i { e with val := v }⟩ c) (y' := .map ⟨es'.toList.set i { e' with val := v' }⟩ c)
    ⟨_, MERL.set (e' := { e' with val := v' }) i ⟨hee.key, hv, hee.born⟩ h2, rfl⟩
  refine ⟨w', ?_, t2⟩
  have hf : es'.findIdx? (fun e => (e.born : Int) == n) = some i := by
    have : es'.findIdx? (fun e => (e.born : Int) == n) = es'.toList.findIdx? (fun e => (e.born : Int) == n) := by
      obtain ⟨l⟩ := es'; rw [List.findIdx?_toArray]
    rw [this, h2.findBorn, hi]
  simp only [Instr.entryStore, Sem.run_bind, run_getObj_at h1 rfl, Result.andThen_ok, asInt, asIntOf, Sem.run_pure, hf]
  rw [modify_list es' i _ he']
  exact t1
end Go.Mt
