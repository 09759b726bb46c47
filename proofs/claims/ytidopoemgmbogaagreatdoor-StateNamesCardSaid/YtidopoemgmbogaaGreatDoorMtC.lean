/- A way to reckon with the model (part 3 of 4): an abstract heap, what the program comes to on it, and the proof that what is reckoned so holds of every run of the model. -/
import Derived.Test.YtidopoemgmbogaaGreatDoorMtB
/- Operations that turn nothing of the heap; an operation looks at its operands alone; values that are the same. -/
namespace Go.Mt
variable {P : Program}

noncomputable def opInert (P : Program) (o : Op) : Bool :=
  match o with
  | .move _ | .assign _ | .pick .. | .build .. | .load .. | .nilCheck _ | .binOp .. | .unOp .. | .makeInterface .. | .makeFunc .. | .slice .. | .fieldAddr .. | .field .. | .indexAddr .. | .index .. | .lookup .. | .typeAssert .. | .extract .. | .entry _ => true
  | .convert s d _ => match P.underlying s, P.underlying d with
    | some .string, some (.slice _) => false
    | _, _ => true
  | .call { callee := .builtin .len, .. } => true
  | _ => false
theorem ofV_vals {H : AH} {r : Option Value} {l : List (Value × AH)} (h : ofV H r = .vals l) : ∃ v, l = [(v, H)] := by
  cases r <;> simp [ofV] at h
  exact ⟨_, h.symm⟩
theorem ofE_vals {H : AH} {r : Option (Except Value Value)} {l : List (Value × AH)} (h : ofE H r = .vals l) : ∃ v, l = [(v, H)] := by
  cases r with
  | none => simp [ofE] at h
  | some r => cases r <;> simp [ofE] at h; exact ⟨_, h.symm⟩
theorem ofV_skip {H H' : AH} {r : Option Value} (h : ofV H r = .skip H') : False := by cases r <;> simp [ofV] at h
theorem ofE_skip {H H' : AH} {r : Option (Except Value Value)} (h : ofE H r = .skip H') : False := by
  cases r with
  | none => simp [ofE] at h
  | some r => cases r <;> simp [ofE] at h
theorem inert_vals {ea : Operand → Value} {o : Oper} {H : AH} (hi : opInert P o.op = true) {l : List (Value × AH)} (h : aOp P ea o H = .vals l) : ∃ v, l = [(v, H)] := by
  obtain ⟨dst, op, type, pos, after, guard⟩ := o
  unfold aOp at h
  dsimp only at h hi
  cases op
  case move => cases h; exact ⟨_, rfl⟩
  case assign => cases h; exact ⟨_, rfl⟩
  case pick => dsimp only at h; split at h <;> cases h; exact ⟨_, rfl⟩
  case makeFunc f first captured => cases f <;> cases h; exact ⟨_, rfl⟩
  case nilCheck x =>
    dsimp only at h
    unfold aNilCheck at h
    repeat' split at h
    all_goals first | (cases h; done) | (cases h; exact ⟨_, rfl⟩)
  case binOp => exact ofE_vals h
  case unOp => exact ofE_vals h
  case convert s d x =>
    dsimp only at h
    split at h <;> cases h
    rename_i v H' hc
    have : H' = H := by
      unfold aConvert at hc
      split at hc
      · split at hc <;> try cases hc
        split at hc <;> try cases hc
        rw [Option.map_eq_some_iff] at hc
        obtain ⟨_, _, h2⟩ := hc; cases h2; rfl
      · rename_i h0 h1 h2; simp [opInert, h0, h1] at hi
      · cases hc; rfl
      · split at hc <;> try cases hc
        split at hc <;> cases hc
        rfl
      · split at hc <;> try cases hc
        split at hc <;> cases hc
        rfl
      · cases hc
    rw [this]; exact ⟨_, rfl⟩
  case call c =>
    obtain ⟨callee, args, ats⟩ := c
    cases callee with
    | builtin b =>
      cases b
      case len =>
        simp only [aCall, aBuiltin] at h
        split at h
        all_goals first | exact ofV_vals h | (cases h; done) | simp_all
      all_goals (exact absurd hi Bool.false_ne_true)
    | _ => exact absurd hi Bool.false_ne_true
  case build => exact ofV_vals h
  case load => exact ofV_vals h
  case makeInterface => exact ofV_vals h
  case slice => exact ofV_vals h
  case fieldAddr => exact ofV_vals h
  case field => exact ofV_vals h
  case indexAddr => exact ofV_vals h
  case index => exact ofV_vals h
  case lookup => exact ofV_vals h
  case typeAssert => exact ofV_vals h
  case extract => exact ofV_vals h
  case entry => exact ofV_vals h
  all_goals (exact absurd hi Bool.false_ne_true)

theorem map_opt {ea eb : Operand → Value} {x : Option Operand} (h : ∀ y ∈ x, ea y = eb y) : x.map ea = x.map eb := by
  cases x with
  | none => rfl
  | some y => exact congrArg some (h y rfl)
theorem aOp_congr {ea eb : Operand → Value} {o : Oper} {H : AH} (h : ∀ x ∈ o.op.operands, ea x = eb x) : aOp P ea o H = aOp P eb o H := by
  obtain ⟨dst, op, type, pos, after, guard⟩ := o
  unfold aOp
  dsimp only at h ⊢
  cases op <;> simp only [Op.operands] at h <;> try dsimp only
  case build t parts =>
    have : (parts.toList.map fun p => (p.1, ea p.2)) = parts.toList.map fun p => (p.1, eb p.2) := List.map_congr_left fun p hp => by
      rw [h p.2 (by simp only [List.mem_toArray, List.mem_map]; exact ⟨p, hp, rfl⟩)]
    rw [this]
  case buildSlice t len parts =>
    have : (parts.toList.map fun p => (p.1, ea p.2)) = parts.toList.map fun p => (p.1, eb p.2) := List.map_congr_left fun p hp => by
      rw [h p.2 (by simp only [List.mem_toArray, List.mem_map]; exact ⟨p, hp, rfl⟩)]
    rw [this]
  case makeFunc f first captured =>
    cases f <;> try rfl
    have h1 : first.toList.map ea = first.toList.map eb := List.map_congr_left fun x hx => h x (Array.mem_append.2 (.inl (by simpa using hx)))
    have h2 : captured.toList.map ea = captured.toList.map eb := List.map_congr_left fun x hx => h x (Array.mem_append.2 (.inr (by simpa using hx)))
    dsimp only
    rw [h1, h2]
  case makeMap t r => rw [map_opt fun y hy => h y (by simpa using hy)]
  case slice t x lo hi mx =>
    rw [h x (by simp), map_opt (x := lo) fun y hy => h y (by simp at hy ⊢; simp [hy]), map_opt (x := hi) fun y hy => h y (by simp at hy ⊢; simp [hy]), map_opt (x := mx) fun y hy => h y (by simp at hy ⊢; simp [hy])]
  case call c =>
    obtain ⟨callee, args, ats⟩ := c
    have ha : ∀ x ∈ args, ea x = eb x := fun x hx => h x (by cases callee <;> simp [Call.operands, hx])
    have h1 : args.toList.map ea = args.toList.map eb := List.map_congr_left fun x hx => ha x (by simpa using hx)
    unfold aCall
    dsimp only
    rw [h1]
    cases callee with
    | value f => dsimp only; rw [h f (by simp [Call.operands])]
    | builtin b => rfl
    | invoke recv name => dsimp only; rw [h recv (by simp [Call.operands])]
  case defer c =>
    obtain ⟨callee, args, ats⟩ := c
    have ha : ∀ x ∈ args, ea x = eb x := fun x hx => h x (by cases callee <;> simp [Call.operands, hx])
    have h1 : args.toList.map ea = args.toList.map eb := List.map_congr_left fun x hx => ha x (by simpa using hx)
    unfold aDefer
    dsimp only
    rw [h1]
    cases callee with
    | value f => dsimp only; rw [h f (by simp [Call.operands])]
    | _ => rfl
  all_goals first
    | rfl
    | (rw [h _ (by simp)]; done)
    | (rw [h _ (by simp), h _ (by simp)]; done)
    | (rw [h _ (by simp), h _ (by simp), h _ (by simp)]; done)
/-- surely the same value (so many levels deep). -/
noncomputable def eqL (f : Value → Value → Bool) : List Value → List Value → Bool
  | [], [] => true
  | x :: xs, y :: ys => f x y && eqL f xs ys
  | _, _ => false
theorem eqL_eq {f : Value → Value → Bool} (hf : ∀ x y, f x y = true → x = y) : ∀ (l m : List Value), eqL f l m = true → l = m
  | [], [], _ => rfl
  | x :: xs, y :: ys, h => by
    simp only [eqL, Bool.and_eq_true] at h
    rw [hf _ _ h.1, eqL_eq hf _ _ h.2]
  | [], _ :: _, h => by cases h
  | _ :: _, [], h => by cases h
noncomputable def eqAd : Addr → Addr → Bool
  | ⟨b, o, none⟩, ⟨b', o', none⟩ => Nat.beq b b' && Nat.beq o o'
  | _, _ => false
theorem eqAd_eq {a b : Addr} (h : eqAd a b = true) : a = b := by
  unfold eqAd at h
  split at h
  · simp only [Bool.and_eq_true] at h; rw [Nat.eq_of_beq_eq_true h.1, Nat.eq_of_beq_eq_true h.2]
  · cases h
noncomputable def eqI : Int → Int → Bool
  | .ofNat a, .ofNat b => Nat.beq a b
  | .negSucc a, .negSucc b => Nat.beq a b
  | _, _ => false
theorem eqI_eq {a b : Int} (h : eqI a b = true) : a = b := by
  unfold eqI at h
  split at h
  · rw [Nat.eq_of_beq_eq_true h]
  · rw [Nat.eq_of_beq_eq_true h]
  · cases h
noncomputable def eqV : Nat → Value → Value → Bool
  | 0, _, _ => false
  | n + 1, a, b => match a, b with
    | .bool x, .bool y => x == y
    | .int k x, .int k' y => Nat.beq (kIdx k) (kIdx k') && eqI x y
    | .string s, .string t => decide (s = t)
    | .pointer none, .pointer none => true
    | .pointer (some x), .pointer (some y) => eqAd x y
    | .slice none m c, .slice none m' c' => Nat.beq m m' && Nat.beq c c'
    | .slice (some x) m c, .slice (some y) m' c' => eqAd x y && (Nat.beq m m' && Nat.beq c c')
    | .map none, .map none => true
    | .map (some x), .map (some y) => Nat.beq x y
    | .nilFunc, .nilFunc => true
    | .func (.func f) ⟨x⟩ ⟨z⟩, .func (.func g) ⟨x'⟩ ⟨z'⟩ => Nat.beq f g && (eqL (eqV n) x x' && eqL (eqV n) z z')
    | .func (.yield f) ⟨x⟩ ⟨z⟩, .func (.yield g) ⟨x'⟩ ⟨z'⟩ => Nat.beq f g && (eqL (eqV n) x x' && eqL (eqV n) z z')
    | .nilIface, .nilIface => true
    | .iface t x, .iface t' y => Nat.beq t t' && eqV n x y
    | .agg ⟨l⟩, .agg ⟨m⟩ => eqL (eqV n) l m
    | .tuple ⟨l⟩, .tuple ⟨m⟩ => eqL (eqV n) l m
    | _, _ => false
theorem eqV_eq : ∀ (n : Nat) (a b : Value), eqV n a b = true → a = b
  | 0, _, _, h => by cases h
  | n + 1, a, b, h => by
    have ih := eqV_eq n
    unfold eqV at h
    split at h
    · rw [eq_of_beq h]
    · rw [Bool.and_eq_true] at h; rw [kIdx_inj h.1, eqI_eq h.2]
    · rw [of_decide_eq_true h]
    · rfl
    · rw [eqAd_eq h]
    · simp only [Bool.and_eq_true] at h; rw [Nat.eq_of_beq_eq_true h.1, Nat.eq_of_beq_eq_true h.2]
    · simp only [Bool.and_eq_true] at h; rw [eqAd_eq h.1, Nat.eq_of_beq_eq_true h.2.1, Nat.eq_of_beq_eq_true h.2.2]
    · rfl
    · rw [Nat.eq_of_beq_eq_true h]
    · rfl
    · simp only [Bool.and_eq_true] at h; rw [Nat.eq_of_beq_eq_true h.1, eqL_eq ih _ _ h.2.1, eqL_eq ih _ _ h.2.2]
    · simp only [Bool.and_eq_true] at h; rw [Nat.eq_of_beq_eq_true h.1, eqL_eq ih _ _ h.2.1, eqL_eq ih _ _ h.2.2]
    · rfl
    · rw [Bool.and_eq_true] at h; rw [Nat.eq_of_beq_eq_true h.1, ih _ _ h.2]
    · rw [eqL_eq ih _ _ h]
    · rw [eqL_eq ih _ _ h]
    · cases h
theorem ofV_inv {H : AH} {r : Option Value} {v : Value} {H1 : AH} (h : ofV H r = .vals [(v, H1)]) : r = some v := by
  cases r with
  | none => cases h
  | some w => simp only [ofV, ARes.vals.injEq, List.cons.injEq, Prod.mk.injEq, and_true] at h; rw [h.1]
theorem ofE_inv {H : AH} {r : Option (Except Value Value)} {v : Value} {H1 : AH} (h : ofE H r = .vals [(v, H1)]) : r = some (.ok v) := by
  cases r with
  | none => cases h
  | some w => cases w <;> simp only [ofE, ARes.vals.injEq, List.cons.injEq, Prod.mk.injEq, and_true, reduceCtorEq] at h; rw [h.1]
/-- it looks at no heap. -/
def opPure : Op → Bool
  | .move _ | .assign _ | .pick .. | .build .. | .binOp .. | .unOp .. | .makeInterface .. | .makeFunc .. | .fieldAddr .. | .field .. | .indexAddr .. | .index .. | .typeAssert .. | .extract .. => true
  | _ => false
theorem pure_any {H H' : AH} {ea : Operand → Value} {o : Oper} (hi : opPure o.op = true) {v : Value} (h : aOp P ea o H = .vals [(v, H)]) : aOp P ea o H' = .vals [(v, H')] := by
  obtain ⟨dst, op, type, pos, after, guard⟩ := o
  unfold aOp at h ⊢
  dsimp only at h hi ⊢
  cases op
  case move => cases h; rfl
  case assign => cases h; rfl
  case pick => dsimp only at h ⊢; split at h <;> cases h; rfl
  case makeFunc f first captured => cases f <;> cases h; rfl
  case binOp => dsimp only at h ⊢; rw [ofE_inv h]; rfl
  case unOp => dsimp only at h ⊢; rw [ofE_inv h]; rfl
  case build => dsimp only at h ⊢; rw [ofV_inv h]; rfl
  case makeInterface => dsimp only at h ⊢; rw [ofV_inv h]; rfl
  case fieldAddr => dsimp only at h ⊢; rw [ofV_inv h]; rfl
  case field => dsimp only at h ⊢; rw [ofV_inv h]; rfl
  case indexAddr => dsimp only at h ⊢; rw [ofV_inv h]; rfl
  case index => dsimp only at h ⊢; rw [ofV_inv h]; rfl
  case typeAssert => dsimp only at h ⊢; rw [ofV_inv h]; rfl
  case extract => dsimp only at h ⊢; rw [ofV_inv h]; rfl
  all_goals (exact absurd hi Bool.false_ne_true)
end Go.Mt
/- The computation of code; what it comes to holds of W. -/
namespace Go.Mt
variable {α β : Type}
inductive Out where
  | mk (x : Exit) (e : Env) (H : AH)
  | bad (w : String)
inductive RetO where
  | mk (r : Ret) (H : AH)
  | bad (w : String)
abbrev EvF := Cal → AH → RetO
noncomputable def retK (o : Oper) (e : Env) (k : Env → AH → Out) : RetO → Out
  | .mk (.ret v) H => e.putK o.dst v fun e => k e H
  | .mk (.pan c) H => .mk (.panic c) e H
  | .bad w => .bad w
noncomputable def fOp (P : Program) (ea : Operand → Value) (o : Oper) (H : AH) : ARes :=
  match o.op with
  | .move x | .assign x => .vals [(ea x, H)]
  | .binOp op t x y _ => ofE H (fBin P op t x y (ea x) (ea y))
  | .convert s d x => match fConvert P H s d (ea x) with
    | some (.val v H') => .vals [(v, H')]
    | _ => .stuck
  | _ => aOp P ea o H
theorem fOp_eq (P : Program) (ea : Operand → Value) (o : Oper) (H : AH) : fOp P ea o H = aOp P ea o H := by
  unfold fOp
  split
  · rename_i h; simp only [aOp, h]
  · rename_i h; simp only [aOp, h]
  · rename_i h; simp only [aOp, h, fBin_eq]
  · rename_i h; simp only [aOp, h, fConvert_eq]; rfl
  · rfl
noncomputable def evAlone (P : Program) (F : EvF) (ro : Option Nat) (o : Oper) (e : Env) (H : AH) (k : Env → AH → Out) : Out :=
  match fOp P e.eval o H with
  | .vals [(v, H')] => normH H' fun H' => e.putK o.dst v fun e => k e H'
  | .skip H' => normH H' fun H' => e.putK o.dst undef fun e => k e H'
  | .enter f args H' => normH H' fun H' => retK o e k (F (.fn f args) H')
  | .round l args H' => normH H' fun H' => retK o e k (F (.round l args) H')
  | .pan v H' => .mk (.panic [{ v, recovered := false }]) e H'
  | .dfr d H' => match ro with
    | none => normH H' fun H' => match e with
      | ⟨t, n, ds⟩ => (⟨t, n, d :: ds⟩ : Env).putK o.dst undef fun e => k e H'
    | some _ => .bad o.pos
  | _ => .bad o.pos
noncomputable def yieldT (e : Env) (t : Tmp) : Option Bool :=
  Bool.rec (motive := fun _ => Option Bool) none (match e.val t with
    | .bool b => some b
    | _ => none) (Nat.blt t e.n)
noncomputable def yieldE (ops : Array Oper) (e : Env) (j : Nat) : Option Bool :=
  match (ops[j]?).bind (·.dst) with
  | some t => yieldT e t
  | none => none
theorem yieldE_eq (ops : Array Oper) (e : Env) : yieldE ops e = yielded ops e.act.tmps := by
  funext j
  unfold yieldE yielded
  cases (ops[j]?).bind (·.dst) with
  | none => rfl
  | some t =>
    show yieldT e t = _
    unfold yieldT
    simp only [Option.bind_some]
    by_cases ht : t < e.n
    · have h1 : Nat.blt t e.n = true := by simpa [Nat.blt_eq] using ht
      have h2 : e.act.tmps[t]? = some (e.val t) := by simp [Env.act, Env.arr, ht]
      rw [h1, h2]
      show (match e.val t with
        | .bool b => some b
        | _ => none) = _
      cases e.val t <;> rfl
    · have h1 : Nat.blt t e.n = false := by
        cases h : Nat.blt t e.n with
        | false => rfl
        | true => exact absurd (by simpa [Nat.blt_eq] using h) ht
      have h2 : e.act.tmps[t]? = none := by simp [Env.act, Env.arr]; exact Nat.not_lt.1 ht
      rw [h1, h2]
noncomputable def evOps (P : Program) (F : EvF) (ro : Option Nat) (ops : Array Oper) (l : List Oper) : Env → AH → Out :=
  List.rec (motive := fun _ => Env → AH → Out) (fun e H => .mk .normal e H)
    (fun o _ ih e H => Bool.rec (motive := fun _ => Out) (e.putK o.dst undef fun e => ih e H) (evAlone P F ro o e H ih) (Region.wanted o (yieldE ops e))) l
/-! a region whose order is drawn: gone through in the order of its text; checked that no other order comes to anything else. -/
def needsOf (o : Oper) : List Nat := (o.after.toList.filter fun e => Region.binds .any e).map (·.on)
def needs (ops : Array Oper) (j : Nat) : List Nat :=
  match ops[j]? with
  | some o => needsOf o
  | none => []
/-- does the first come ahead of the second in each order? -/
def dep (ops : Array Oper) : Nat → Nat → Nat → Bool
  | 0, _, _ => false
  | n + 1, i, j => (needs ops j).any fun k => Nat.beq k i || dep ops n i k
def guardTmp (ops : Array Oper) (o : Oper) : Option Tmp := o.guard.bind fun g => (ops[g.1]?).bind (·.dst)
def tmpOf : Operand → Option Tmp
  | .tmp t => some t
  | _ => none
def touches (ops : Array Oper) (o : Oper) : List Tmp := o.op.operands.toList.filterMap tmpOf ++ (guardTmp ops o).toList ++ o.dst.toList
def memN (t : Nat) (l : List Nat) : Bool := l.any fun u => Nat.beq u t
noncomputable def clash (P : Program) (ops : Array Oper) (a b : Oper) : Bool :=
  (!opInert P a.op && !opInert P b.op) || (match a.dst with
    | some t => memN t (touches ops b)
    | none => false) || (match b.dst with
    | some t => memN t (touches ops a)
    | none => false)
noncomputable def pairOk (P : Program) (ops : Array Oper) (i j : Nat) : Bool :=
  match ops[i]?, ops[j]? with
  | some a, some b => !clash P ops a b || dep ops ops.size i j
  | _, _ => false
noncomputable def drawOk (P : Program) (ops : Array Oper) : Bool :=
  (List.range ops.size).all fun j => ((needs ops j).all fun k => Nat.blt k j) && (List.range j).all fun i => pairOk P ops i j
structure TrE where
  e : Env
  H : AH
  v : Value
noncomputable def evOne (P : Program) (F : EvF) (ops : Array Oper) (o : Oper) (e : Env) (H : AH) : Option (Value × AH) :=
  match Region.wanted o (yieldE ops e) with
  | false => some (undef, H)
  | true => match opInert P o.op with
   | true => match fOp P e.eval o H with
    | .vals [(v, _)] => forceV v fun v => some (v, H)
    | _ => none
   | false => match fOp P e.eval o H with
    | .vals [(v, H')] => normH H' fun H' => forceV v fun v => some (v, H')
    | .skip H' => normH H' fun H' => some (undef, H')
    | .enter f args H' => normH H' fun H' => match F (.fn f args) H' with
      | .mk (.ret v) H'' => some (v, H'')
      | _ => none
    | .round l args H' => normH H' fun H' => match F (.round l args) H' with
      | .mk (.ret v) H'' => some (v, H'')
      | _ => none
    | _ => none
noncomputable def evTr (P : Program) (F : EvF) (ops : Array Oper) (l : List Oper) : Env → AH → Option (List TrE × Env × AH) :=
  List.rec (motive := fun _ => Env → AH → Option (List TrE × Env × AH)) (fun e H => some ([], e, H))
    (fun o _ ih e H => match evOne P F ops o e H with
      | some (v, H') => e.putK o.dst v fun e' => match ih e' H' with
        | some (tr, ef, Hf) => some (⟨e, H, v⟩ :: tr, ef, Hf)
        | none => none
      | none => none) l
noncomputable def sameAt (P : Program) (o : Oper) (x : TrE) (H : AH) : Bool :=
  match fOp P x.e.eval o H with
  | .vals [(v, _)] => eqV 20 v x.v
  | _ => false
noncomputable def isEff (P : Program) (ops : Array Oper) (i : Nat) : Bool :=
  match ops[i]? with
  | some o => !opInert P o.op
  | none => false
/-- the heap behind so many operations. -/
noncomputable def heapAt (tr : List TrE) (Hf : AH) (i : Nat) : AH :=
  match tr[i]? with
  | some x => x.H
  | none => Hf
/-- where an operation that looks at the heap must be looked at anew: before all, behind an operation that turns the heap. -/
noncomputable def chk0 (P : Program) (ops : Array Oper) (j : Nat) : Bool :=
  !((List.range ops.size).any fun i => isEff P ops i && dep ops ops.size i j) && (List.range ops.size).any fun k => isEff P ops k && Nat.blt k j
noncomputable def chkAt (P : Program) (ops : Array Oper) (j m : Nat) : Bool :=
  isEff P ops m && (!dep ops ops.size j m && (!((List.range ops.size).any fun i => isEff P ops i && dep ops ops.size i j && Nat.blt m i) && !(Nat.blt m j && (List.range ops.size).all fun k => !isEff P ops k || Nat.ble k m || Nat.ble j k)))
noncomputable def chks (P : Program) (ops : Array Oper) : List (Nat × Nat) :=
  (List.range ops.size).flatMap fun j => match ops[j]? with
    | some o => match opInert P o.op && !opPure o.op with
      | true => (match chk0 P ops j with
        | true => [(j, 0)]
        | false => []) ++ ((List.range ops.size).filter fun m => chkAt P ops j m).map fun m => (j, m + 1)
      | false => []
    | none => []
noncomputable def forceP (l : List (Nat × Nat)) (k : List (Nat × Nat) → β) : β :=
  List.rec (motive := fun _ => (List (Nat × Nat) → β) → β) (fun k => k []) (fun x _ ih k => ih fun l' => forceN x.1 fun a => forceN x.2 fun b => k ((a, b) :: l')) l k
theorem forceP_eq (l : List (Nat × Nat)) (k : List (Nat × Nat) → β) : forceP l k = k l := by
  induction l generalizing k with
  | nil => rfl
  | cons x l ih =>
    show forceP l (fun l' => forceN x.1 fun a => forceN x.2 fun b => k ((a, b) :: l')) = _
    rw [ih, forceN_eq, forceN_eq]
/-- what is known of a region ahead: none: it may not be gone through in the order of its text. -/
noncomputable def plan (P : Program) (ops : Array Oper) : Option (List (Nat × Nat)) :=
  Bool.rec (motive := fun _ => Option (List (Nat × Nat))) none (forceP (chks P ops) some) (drawOk P ops)
noncomputable def stillAt (P : Program) (ops : Array Oper) (tr : List TrE) (Hf : AH) (p : Nat × Nat) : Bool :=
  match ops[p.1]?, tr[p.1]? with
  | some o, some x => !(Region.wanted o (yieldE ops x.e)) || sameAt P o x (heapAt tr Hf p.2)
  | _, _ => false
def posOf (ops : Array Oper) : String := match ops[0]? with
  | some o => o.pos
  | none => ""
noncomputable def evAny (P : Program) (F : EvF) (ops : Array Oper) (e : Env) (H : AH) : Out :=
  match plan P ops with
  | none => .bad ("draw order " ++ posOf ops)
  | some l => match evTr P F ops ops.toList e H with
    | none => .bad ("draw " ++ posOf ops)
    | some (tr, ef, Hf) => match l.all (stillAt P ops tr Hf) with
      | true => .mk .normal ef Hf
      | false => .bad ("draw turns " ++ posOf ops)
noncomputable def evJump (e : Env) (H : AH) : Option Code → Out
  | none => .mk .normal e H
  | some .ret => .mk .ret e H
  | some (.exit id) => .mk (.exit id) e H
  | some (.goto l) => .mk (.goto l) e H
  | _ => .bad "jump"
noncomputable def evRange (P : Program) (F : EvF) (g : Value) (l : Nat) (e : Env) (H : AH) : Out :=
  match g with
  | .func (.func f) first captured => match bodyOf P f with
    | true => match F (.fn f (first.toList ++ [.func (.yield l) #[] #[]] ++ captured.toList)) H with
      | .mk (.ret _) H' => match loopOf H' l with
        | some r => match r.state with
          | .busy => .bad "busy"
          | _ => normH (H'.set l (.obj (.loop { r with state := .exhausted }))) fun H' => evJump e H' r.pending
        | none => .bad "loop"
      | .mk (.pan c) H' => .mk (.panic c) e H'
      | .bad w => .bad w
    | false => .bad "body"
  | _ => .bad "range"
noncomputable def evC (P : Program) (F : EvF) : Nat → Option Nat → Code → Env → AH → Out
  | 0 => fun _ _ _ _ => .bad "fuel"
  | n + 1 => fun ro c e H => match c with
    | .skip | .label _ => .mk .normal e H
    | .exit id => .mk (.exit id) e H
    | .goto l => .mk (.goto l) e H
    | .ret => .mk .ret e H
    | .region _ ops false => evOps P F ro ops ops.toList e H
    | .region _ ops true => evAny P F ops e H
    | .seq x y => match evC P F n ro x e H with
      | .mk .normal e H => evC P F n ro y e H
      | r => r
    | .cond c x y => match e.eval c with
      | .bool b => Bool.rec (motive := fun _ => Out) (evC P F n ro y e H) (evC P F n ro x e H) b
      | _ => .bad "cond"
    | .block id c => match evC P F n ro c e H with
      | .mk (.exit id') e H => Bool.rec (motive := fun _ => Out) (.mk (.exit id') e H) (.mk .normal e H) (Nat.beq id' id)
      | r => r
    | .loop c => match evC P F n ro c e H with
      | .mk .normal e H => evC P F n ro (.loop c) e H
      | r => r
    | .scope c => match evC P F n ro c e H with
      | .mk (.goto _) _ _ => .bad "scope"
      | r => r
    | .rangeFunc g ps x y => forceN H.next fun l => match ro with
      | none => forceL e.arr.toList fun tl => normH ((H.new (.obj (.deferred (some [])))).new (.obj (.loop { state := .ready, pending := none, fn := 0, tmps := ⟨tl⟩, params := ps, assign := x, body := y, defers := l }))) fun H' =>
          match e with
          | ⟨t, n, ds⟩ => evRange P F (Env.eval ⟨t, n, ds⟩ g) (Nat.succ l) ⟨t, n, { target := .collected l, args := #[] } :: ds⟩ H'
      | some l0 => match loopOf H l0 with
        | some r0 => forceL e.arr.toList fun tl => normH (H.new (.obj (.loop { state := .ready, pending := none, fn := 0, tmps := ⟨tl⟩, params := ps, assign := x, body := y, defers := r0.defers }))) fun H' =>
          evRange P F (e.eval g) l e H'
        | none => .bad "outer loop"
    | _ => .bad "code"
noncomputable def layK (k : T Value → β) (l : List Value) : Nat → T Value → β :=
  List.rec (motive := fun _ => Nat → T Value → β) (fun _ t => k t) (fun v _ ih i t => forceV v fun v => (T.set t i v).force (ih (Nat.succ i))) l
noncomputable def lenL (l : List α) : Nat := List.rec (motive := fun _ => Nat) 0 (fun _ _ ih => Nat.succ ih) l
/-- an activation on its arguments: so many temporaries at least. -/
noncomputable def mkEnvK (args : List Value) (n : Nat) (k : Env → β) : β :=
  layK (fun t => Bool.rec (motive := fun _ => β) (forceN (lenL args) fun m => k ⟨t, m, []⟩) (k ⟨t, n, []⟩) (Nat.ble (lenL args) n)) args 0 .nil
noncomputable def resE (P : Program) (H : AH) (e : Env) (r : ResultVar) : Option Value :=
  match r with
  | .tmp t => some (e.eval (.tmp t))
  | .cell a t => aLoad P H t (e.eval (.tmp a))
theorem aResults_eq {P : Program} {fn : Func} {tmps : Array Value} {H : AH} (g : ResultVar → Option Value) (hg : ∀ r, g r = match r with
    | .tmp t => some (tmps.getD t undef)
    | .cell a t => aLoad P H t (tmps.getD a undef)) : aResults P fn tmps H = match fn.results.toList.mapM g with
      | some [v] => some v
      | some vs => some (.tuple ⟨vs⟩)
      | none => none := by
  have : g = fun r => match r with
    | .tmp t => some (tmps.getD t undef)
    | .cell a t => aLoad P H t (tmps.getD a undef) := funext hg
  subst this
  rfl
noncomputable def evR (P : Program) (e : Env) (H : AH) (l : List ResultVar) (k : Value → RetO) : RetO :=
  match l.mapM (resE P H e) with
  | some [v] => forceV v k
  | some vs => k (.tuple ⟨vs⟩)
  | none => .bad "results"
noncomputable def evLeave (P : Program) (F : EvF) (fn : Func) (e : Env) (l : List Deferred) : FrameMode → AH → RetO :=
  List.rec (motive := fun _ => FrameMode → AH → RetO)
    (fun u H => match u with
      | .returning => evR P e H fn.results.toList fun v => .mk (.ret v) H
      | .panicking c => .mk (.pan c) H
      | .run => .bad "mode")
    (fun d _ ih u H => match d with
      | ⟨.collected r, _⟩ => match H.get r with
        | some (.obj (.deferred (some []))) => normH (H.set r (.obj (.deferred none))) fun H => ih u H
        | _ => .bad "collected"
      | ⟨.fn (.func f) cap, args⟩ => match bodyOf P f with
        | true => match F (.dfn f (args.toList ++ cap.toList)) H with
          | .mk (.ret _) H => ih (settle u) H
          | .mk (.pan c) H => ih (raised u c) H
          | .bad w => .bad w
        | false => .bad "body"
      | _ => .bad "deferred") l
noncomputable def roundEv (l : Nat) (st : LoopState) (p : Option Code) (b : Bool) (H : AH) : RetO :=
  match loopOf H l with
  | some r => normH (H.set l (.obj (.loop { r with state := st, pending := p }))) fun H => .mk (.ret (.bool b)) H
  | none => .bad "round"
abbrev EvOv := FuncId → List Value → AH → Option RetO
/-- a function's body, if it may be gone through. -/
noncomputable def bodyFor (P : Program) (f : FuncId) : Option (Func × Code) :=
  match P.funcs[f]? with
  | some fn => match fn.body with
    | some c => match codeOk P c with
      | true => some (fn, c)
      | false => none
    | none => none
  | none => none
noncomputable def evRound (P : Program) (F : EvF) (n : Nat) (l : Nat) (args : List Value) (H : AH) : RetO :=
  match loopOf H l with
  | some r => match codeOk P r.assign && codeOk P r.body with
    | true => match mkEnvK ((r.params.zip ⟨args⟩).foldl (fun tmps (t, a) => tmps.setIfInBounds t a) r.tmps).toList 0 fun e => evC P F n (some l) r.assign e H with
      | .mk .normal e H' => match loopOf H' l with
        | some r' => match r'.state with
          | .ready => match normH (H'.set l (.obj (.loop { r' with state := .busy }))) fun H' => evC P F n (some l) r.body e H' with
            | .mk .normal _ H => roundEv l .ready none true H
            | .mk .ret _ H => roundEv l .done (some .ret) false H
            | .mk (.exit id) _ H => roundEv l .done (some (.exit id)) false H
            | .mk (.goto t) _ H => roundEv l .done (some (.goto t)) false H
            | .bad w => .bad w
            | _ => .bad "round end"
          | _ => .bad "not ready"
        | none => .bad "loop"
      | .bad w => .bad w
      | _ => .bad "assign"
    | false => .bad "round code"
  | none => .bad "loop"
noncomputable def evPlain (P : Program) (fn : Func) : Out → RetO
  | .mk .normal e H | .mk .ret e H => match e.ds with
    | [] => evR P e H fn.results.toList fun v => .mk (.ret v) H
    | _ => .bad "defers"
  | .mk (.panic c) e H => match e.ds with
    | [] => .mk (.pan c) H
    | _ => .bad "defers"
  | .bad w => .bad w
  | _ => .bad "end"
noncomputable def evFull (P : Program) (F : EvF) (fn : Func) : Out → RetO
  | .mk .normal e H | .mk .ret e H => evLeave P F fn e e.ds .returning H
  | .mk (.panic c) e H => evLeave P F fn e e.ds (.panicking c) H
  | .bad w => .bad w
  | _ => .bad "end"
end Go.Mt
/- What the computation comes to holds of W: operations, code. -/
namespace Go.Mt
variable {P : Program} {X : Fns} {F : EvF} {ro : Option Nat}

def FOk (X : Fns) (F : EvF) : Prop := ∀ c H r H', F c H = .mk r H' → ∀ R : Ret → AH → Prop, R r H' → X c H R
/-- from here it comes to this end: what holds of the end holds from here. -/
def KOk (k : Env → AH → Out) (K : Pre) (x : Exit) (e' : Env) (H' : AH) (q : Prop) : Prop := ∀ e1 H1, e1.Wf → k e1 H1 = .mk x e' H' → e'.Wf ∧ (q → K e1.act H1)
variable {x : Exit} {e' : Env} {H' : AH} {Q : Post}

theorem retK_ok {o : Oper} {e : Env} (he : e.Wf) {k : Env → AH → Out} {K : Pre} (hk : KOk k K x e' H' (Q x e'.act H')) {r : Ret} {H : AH} (h : retK o e k (.mk r H) = .mk x e' H') :
    e'.Wf ∧ (Q x e'.act H' → resA Q K e.act o.dst r H) := by
  cases r with
  | ret v =>
    have h : (e.putK o.dst v fun e => k e H) = .mk x e' H' := h
    rw [Env.putK_eq] at h
    have := hk _ _ (Env.put_wf he _ _) h
    rw [Env.act_put] at this
    exact this
  | pan c =>
    have h : Out.mk (.panic c) e H = .mk x e' H' := h
    cases h
    exact ⟨he, fun q => q⟩
theorem evAlone_ok (hF : FOk X F) {o : Oper} {e : Env} {H : AH} {k : Env → AH → Out} {K : Pre} (he : e.Wf) (hk : KOk k K x e' H' (Q x e'.act H')) (h : evAlone P F ro o e H k = .mk x e' H') :
    e'.Wf ∧ (Q x e'.act H' → stepA P X ro o e.act K Q (aOp P e.act.eval o H)) := by
  have hev : e.act.eval = e.eval := funext (Env.act_eval he)
  rw [hev, ← fOp_eq]
  unfold evAlone at h
  split at h
  · rename_i v H1 heq
    rw [heq]
    rw [normH_eq, Env.putK_eq] at h
    have := hk _ _ (Env.put_wf he _ _) h
    rw [Env.act_put] at this
    refine ⟨this.1, fun q => ?_⟩
    intro r hr
    cases List.mem_singleton.1 hr
    exact this.2 q
  · rename_i H1 heq
    rw [heq]
    rw [normH_eq, Env.putK_eq] at h
    have := hk _ _ (Env.put_wf he _ _) h
    rw [Env.act_put] at this
    exact this
  · rename_i f args H1 heq
    rw [heq]
    rw [normH_eq] at h
    cases hc : F (.fn f args) H1 with
    | bad w => rw [hc] at h; cases h
    | mk r H2 =>
      rw [hc] at h
      have := retK_ok (Q := Q) he hk h
      exact ⟨this.1, fun q => hF _ _ _ _ hc _ (this.2 q)⟩
  · rename_i l args H1 heq
    rw [heq]
    rw [normH_eq] at h
    cases hc : F (.round l args) H1 with
    | bad w => rw [hc] at h; cases h
    | mk r H2 =>
      rw [hc] at h
      have := retK_ok (Q := Q) he hk h
      exact ⟨this.1, fun q => hF _ _ _ _ hc _ (this.2 q)⟩
  · rename_i v H1 heq
    rw [heq]
    cases h
    exact ⟨he, fun q => q⟩
  · rename_i d H1 heq
    rw [heq]
    split at h
    · rw [normH_eq] at h
      obtain ⟨t, n, ds⟩ := e
      dsimp only at h
      rw [Env.putK_eq] at h
      have hw : Env.Wf ⟨t, n, d :: ds⟩ := he
      have := hk _ _ (Env.put_wf hw _ _) h
      rw [Env.act_put] at this
      exact ⟨this.1, fun q => ⟨rfl, this.2 q⟩⟩
    · cases h
  · cases h
theorem evOps_ok (hF : FOk X F) {ops : Array Oper} : ∀ (l : List Oper) (i : Nat), ops.toList.drop i = l → KOk (evOps P F ro ops l) (opsA P X ro ops Q (List.range' i l.length)) x e' H' (Q x e'.act H')
  | [], i, _ => by
    intro e H he h
    cases (show Out.mk .normal e H = .mk x e' H' from h)
    exact ⟨he, fun q => q⟩
  | o :: l, i, hl => by
    intro e H he h
    have ho : ops[i]? = some o := by
      have : (ops.toList.drop i)[0]? = some o := by rw [hl]; rfl
      rw [List.getElem?_drop, Array.getElem?_toList] at this
      exact this
    have hl' : ops.toList.drop (i + 1) = l := by rw [← List.drop_drop, hl]; rfl
    have ih := evOps_ok hF l (i + 1) hl'
    show _ ∧ (_ → opA P X ro ops Q i (opsA P X ro ops Q (List.range' (i + 1) l.length)) e.act H)
    unfold opA
    rw [ho]
    dsimp only
    rw [← yieldE_eq]
    have h : Bool.rec (motive := fun _ => Out) (e.putK o.dst undef fun e => evOps P F ro ops l e H) (evAlone P F ro o e H (evOps P F ro ops l)) (Region.wanted o (yieldE ops e)) = .mk x e' H' := h
    cases hw : Region.wanted o (yieldE ops e) with
    | true =>
      rw [hw] at h
      rw [if_pos rfl]
      exact evAlone_ok hF he ih h
    | false =>
      rw [hw] at h
      rw [if_neg Bool.false_ne_true]
      have h : (e.putK o.dst undef fun e => evOps P F ro ops l e H) = .mk x e' H' := h
      rw [Env.putK_eq] at h
      have := ih _ _ (Env.put_wf he _ _) h
      rw [Env.act_put] at this
      exact this
theorem evJump_ok {e : Env} {H : AH} (he : e.Wf) {p : Option Code} (h : evJump e H p = .mk x e' H') : e'.Wf ∧ (Q x e'.act H' → jumpA Q e.act H p) := by
  unfold evJump at h
  split at h <;> cases h <;> exact ⟨he, fun q => q⟩
theorem evRange_ok (hF : FOk X F) {g : Value} {l : Nat} {e : Env} {H : AH} (he : e.Wf) (h : evRange P F g l e H = .mk x e' H') :
    e'.Wf ∧ (Q x e'.act H' → rangeA P X Q g l e.act H) := by
  unfold evRange at h
  split at h
  · rename_i f first captured
    split at h
    · rename_i hb
      cases hc : F (.fn f (first.toList ++ [.func (.yield l) #[] #[]] ++ captured.toList)) H with
      | bad w => rw [hc] at h; cases h
      | mk r H2 =>
        rw [hc] at h
        cases r with
        | pan c =>
          cases (show Out.mk (.panic c) e H2 = .mk x e' H' from h)
          exact ⟨he, fun q => ⟨hb, hF _ _ _ _ hc _ q⟩⟩
        | ret v =>
          dsimp only at h
          split at h
          · rename_i r hr
            have hnb : r.state ≠ .busy := by intro hb; rw [hb] at h; cases h
            have h2 : evJump e (H2.set l (.obj (.loop { r with state := .exhausted }))) r.pending = .mk x e' H' := by
              revert h
              cases r.state <;> intro h <;> first | exact absurd rfl hnb | cases h | (rw [normH_eq] at h; exact h)
            have := evJump_ok (Q := Q) he h2
            exact ⟨this.1, fun q => ⟨hb, hF _ _ _ _ hc _ ⟨r, hr, hnb, this.2 q⟩⟩⟩
          · cases h
    · cases h
  · cases h
end Go.Mt
/- A region whose order is drawn: what its computation comes to holds in whatever order. -/
namespace Go.Mt
variable {P : Program} {X : Fns} {F : EvF} {ro : Option Nat} {Q : Post} {ops : Array Oper}

/-! temporaries -/
theorem Env.put_n (e : Env) (d : Option Tmp) (v : Value) : (e.put d v).n = e.n := by
  cases d with
  | none => rfl
  | some d => by_cases h : d < e.n <;> simp [Env.put, h]
theorem Env.put_ds (e : Env) (d : Option Tmp) (v : Value) : (e.put d v).ds = e.ds := by
  cases d with
  | none => rfl
  | some d => by_cases h : d < e.n <;> simp [Env.put, h]
theorem Env.put_val (e : Env) (d : Option Tmp) (v : Value) (t : Nat) : (e.put d v).val t = if d = some t ∧ t < e.n then v else e.val t := by
  cases d with
  | none => rw [if_neg (by simp)]; rfl
  | some d =>
    by_cases h : d < e.n
    · rw [Env.put_lt h]
      unfold Env.val
      rw [T.get_set]
      by_cases h2 : t = d
      · subst h2; rw [if_pos rfl, if_pos ⟨rfl, h⟩]
      · rw [if_neg h2, if_neg (fun hc => h2 (Option.some.inj hc.1).symm)]
    · rw [Env.put_ge h, if_neg]
      intro hc; cases hc.1; exact h hc.2
theorem Env.act_ext {e f : Env} (hn : e.n = f.n) (hd : e.ds = f.ds) (hv : ∀ t, e.val t = f.val t) : e.act = f.act := by
  unfold Env.act Env.arr
  rw [hn, hd, show e.val = f.val from funext hv]

/-- the operations that are listed, done in the text's order. -/
noncomputable def envS (ops : Array Oper) (V : Nat → Value) (S : Nat → Bool) (e : Env) : Nat → Env
  | 0 => e
  | n + 1 => match ops[n]? with
    | some o => if S n then (envS ops V S e n).put o.dst (V n) else envS ops V S e n
    | none => envS ops V S e n
def writes (ops : Array Oper) (i t : Nat) : Prop := ∃ o, ops[i]? = some o ∧ o.dst = some t
section
variable {V : Nat → Value} {S S' : Nat → Bool} {e : Env}
theorem envS_n : ∀ n, (envS ops V S e n).n = e.n
  | 0 => rfl
  | n + 1 => by
    unfold envS
    split
    · split
      · rw [Env.put_n]; exact envS_n n
      · exact envS_n n
    · exact envS_n n
theorem envS_ds : ∀ n, (envS ops V S e n).ds = e.ds
  | 0 => rfl
  | n + 1 => by
    unfold envS
    split
    · split
      · rw [Env.put_ds]; exact envS_ds n
      · exact envS_ds n
    · exact envS_ds n
theorem envS_wf (he : e.Wf) : ∀ n, (envS ops V S e n).Wf
  | 0 => he
  | n + 1 => by
    unfold envS
    split
    · split
      · exact Env.put_wf (envS_wf he n) _ _
      · exact envS_wf he n
    · exact envS_wf he n
/-- who lists the same writers of a temporary reads the same there. -/
theorem envS_val {t : Nat} : ∀ n, (∀ i, i < n → writes ops i t → S i = S' i) → (envS ops V S e n).val t = (envS ops V S' e n).val t
  | 0, _ => rfl
  | n + 1, h => by
    have ih := envS_val n fun i hi => h i (Nat.lt_succ_of_lt hi)
    unfold envS
    cases ho : ops[n]? with
    | none => exact ih
    | some o =>
      dsimp only
      by_cases hd : o.dst = some t
      · have := h n (Nat.lt_succ_self n) ⟨o, ho, hd⟩
        rw [this]
        split
        · rw [Env.put_val, Env.put_val, envS_n, envS_n, ih]
        · exact ih
      · have hput : ∀ (f : Env), (f.put o.dst (V n)).val t = f.val t := fun f => by rw [Env.put_val, if_neg (fun hc => hd hc.1)]
        split <;> split <;> simp only [hput, ih]
/-- the listed ones ahead of a place, and no others: as it was in the text's order. -/
theorem envS_all {j : Nat} : ∀ n, j ≤ n → envS ops V (fun i => decide (i < j)) e n = envS ops V (fun i => decide (i < j)) e j
  | 0, h => by rw [Nat.le_zero.1 h]
  | n + 1, h => by
    by_cases hj : j = n + 1
    · rw [hj]
    · rw [← envS_all n (by omega)]
      show (match ops[n]? with
        | some o => if decide (n < j) then _ else _
        | none => _) = _
      have : decide (n < j) = false := by simp; omega
      rw [this]
      cases ops[n]? <;> rfl
theorem envS_prefix {j : Nat} {E : Nat → Env} (h0 : E 0 = e) (hE : ∀ i o, i < j → ops[i]? = some o → E (i + 1) = (E i).put o.dst (V i)) : ∀ n, n ≤ j → n ≤ ops.size → envS ops V (fun i => decide (i < j)) e n = E n
  | 0, _, _ => h0.symm
  | n + 1, h, hs => by
    have ih := envS_prefix h0 hE n (by omega) (by omega)
    have ho : ops[n]? = some ops[n] := Array.getElem?_eq_getElem (by omega)
    unfold envS
    rw [ho, ih]
    have : decide (n < j) = true := by simp; omega
    rw [this]
    exact (hE n _ (by omega) ho).symm
end

/-! orders -/
def ShutS (ops : Array Oper) (S : Nat → Bool) : Prop := ∀ j, S j = true → ∀ k ∈ needs ops j, S k = true
theorem dep_in {S : Nat → Bool} (hc : ShutS ops S) : ∀ (n i j : Nat), dep ops n i j = true → (∀ k ∈ needs ops j, S k = true) → S i = true
  | 0, _, _, h, _ => by cases h
  | n + 1, i, j, h, hj => by
    unfold dep at h
    rw [List.any_eq_true] at h
    obtain ⟨k, hk, h⟩ := h
    rw [Bool.or_eq_true] at h
    rcases h with h | h
    · rw [← Nat.eq_of_beq_eq_true h]; exact hj k hk
    · exact dep_in hc n i k h (hc k (hj k hk))
theorem ready_spec {listed : Array Bool} {i : Nat} (h : i ∈ Region.ready .any ops listed) :
    ∃ o, ops[i]? = some o ∧ listed.getD i true = false ∧ ∀ k ∈ needs ops i, listed.getD k false = true := by
  unfold Region.ready at h
  rw [List.mem_filter, Bool.and_eq_true] at h
  obtain ⟨h1, h2, h3⟩ := h
  have hi : i < ops.size := by simpa using h1
  have ho : ops[i]? = some ops[i] := Array.getElem?_eq_getElem hi
  refine ⟨_, ho, by simpa using h2, fun k hk => ?_⟩
  rw [ho] at h3
  simp only [Option.map_some, Option.getD_some] at h3
  rw [← Array.all_toList, List.all_eq_true] at h3
  simp only [needs, ho, needsOf, List.mem_map, List.mem_filter] at hk
  obtain ⟨e, ⟨he, hb⟩, rfl⟩ := hk
  have := h3 e he
  rw [hb] at this
  simpa using this
theorem ready_none {listed : Array Bool} (hl : listed.size = ops.size) (hn : ∀ j, j < ops.size → ∀ k ∈ needs ops j, k < j) (h : Region.ready .any ops listed = []) : ∀ i, i < ops.size → listed.getD i false = true := by
  intro i
  induction i using Nat.strongRecOn with
  | _ i ih =>
    intro hi
    cases hb : listed.getD i false with
    | true => rfl
    | false =>
      exfalso
      have ho : ops[i]? = some ops[i] := Array.getElem?_eq_getElem hi
      have : i ∈ Region.ready .any ops listed := by
        unfold Region.ready
        rw [List.mem_filter, Bool.and_eq_true]
        refine ⟨by simpa using hi, ?_, ?_⟩
        · have : listed.getD i true = listed.getD i false := by
            simp [Array.getD, hl, hi]
          rw [this, hb]; rfl
        · rw [ho]
          simp only [Option.map_some, Option.getD_some]
          rw [← Array.all_toList, List.all_eq_true]
          intro e he
          cases hbi : Region.binds .any e with
          | false => rfl
          | true =>
            have hk : e.on ∈ needs ops i := by
              simp only [needs, ho, needsOf, List.mem_map, List.mem_filter]
              exact ⟨e, ⟨he, hbi⟩, rfl⟩
            have hlt := hn i hi _ hk
            have := ih e.on hlt (by omega)
            simp only [Bool.not_true, Bool.false_or]
            exact this
      rw [h] at this
      cases this

/-! the trace -/
theorem evTr_facts : ∀ (l : List Oper) (e : Env) (H : AH) {tr : List TrE} {ef : Env} {Hf : AH}, evTr P F ops l e H = some (tr, ef, Hf) →
    ∃ (E : Nat → Env) (Hs : Nat → AH) (V : Nat → Value), E 0 = e ∧ Hs 0 = H ∧ E l.length = ef ∧ (∀ j, heapAt tr Hf j = if j < l.length then Hs j else Hf) ∧ Hs l.length = Hf ∧
      ∀ j o, l[j]? = some o → tr[j]? = some ⟨E j, Hs j, V j⟩ ∧ E (j + 1) = (E j).put o.dst (V j) ∧ evOne P F ops o (E j) (Hs j) = some (V j, Hs (j + 1))
  | [], e, H, tr, ef, Hf, h => by
    cases (show some (([] : List TrE), e, H) = some (tr, ef, Hf) from h)
    exact ⟨fun _ => e, fun _ => H, fun _ => undef, rfl, rfl, rfl, fun j => by simp [heapAt], rfl, fun j o hj => by simp at hj⟩
  | o :: l, e, H, tr, ef, Hf, h => by
    have h : (match evOne P F ops o e H with
      | some (v, H') => e.putK o.dst v fun e' => match evTr P F ops l e' H' with
        | some (tr, ef, Hf) => some (⟨e, H, v⟩ :: tr, ef, Hf)
        | none => none
      | none => none) = some (tr, ef, Hf) := h
    split at h
    · rename_i v H' ho
      rw [Env.putK_eq] at h
      split at h
      · rename_i tr' ef' Hf' ht
        cases h
        obtain ⟨E, Hs, V, h1, h2, h3, h4, h5, h6⟩ := evTr_facts l _ _ ht
        refine ⟨fun n => Nat.casesOn n e E, fun n => Nat.casesOn n H Hs, fun n => Nat.casesOn n v V, rfl, rfl, h3, ?_, h5, ?_⟩
        · intro j
          cases j with
          | zero => rw [if_pos (by simp)]; rfl
          | succ j =>
            have := h4 j
            simp only [heapAt, List.getElem?_cons_succ, List.length_cons, Nat.add_lt_add_iff_right] at this ⊢
            exact this
        · intro j o' hj
          cases j with
          | zero =>
            simp only [List.getElem?_cons_zero, Option.some.injEq] at hj
            subst hj
            exact ⟨rfl, h1, by show evOne P F ops o e H = some (v, Hs 0); rw [h2]; exact ho⟩
          | succ j => exact h6 j o' (by simpa using hj)
      · cases h
    · cases h
theorem evOne_inert {o : Oper} {e : Env} {H H' : AH} {v : Value} (hi : opInert P o.op = true) (h : evOne P F ops o e H = some (v, H')) : H' = H := by
  unfold evOne at h
  split at h
  · cases h; rfl
  · rw [hi] at h
    dsimp only at h
    split at h
    · rw [forceV_eq] at h; cases h; rfl
    · cases h
def effAt (P : Program) (ops : Array Oper) (i : Nat) : Prop := ∃ o, ops[i]? = some o ∧ opInert P o.op = false
theorem isEff_iff {i : Nat} : isEff P ops i = true ↔ effAt P ops i := by
  unfold isEff effAt
  cases ops[i]? with
  | none => simp
  | some o => simp
theorem memN_of {t : Nat} {l : List Nat} (h : t ∈ l) : memN t l = true := List.any_eq_true.2 ⟨t, h, Nat.beq_refl t⟩
theorem clash_dst {a b : Oper} {t : Tmp} (ha : a.dst = some t) (hb : t ∈ touches ops b) : clash P ops a b = true := by
  unfold clash; rw [ha]; simp [memN_of hb]
theorem clash_dst' {a b : Oper} {t : Tmp} (hb : b.dst = some t) (ha : t ∈ touches ops a) : clash P ops a b = true := by
  unfold clash; rw [hb]; simp [memN_of ha]
theorem clash_eff {a b : Oper} (ha : opInert P a.op = false) (hb : opInert P b.op = false) : clash P ops a b = true := by
  unfold clash; simp [ha, hb]
theorem pair_dep {i j : Nat} {a b : Oper} (hd : drawOk P ops = true) (hij : i < j) (ha : ops[i]? = some a) (hb : ops[j]? = some b) (hc : clash P ops a b = true) : dep ops ops.size i j = true := by
  unfold drawOk at hd
  rw [List.all_eq_true] at hd
  have hj : j < ops.size := (Array.getElem?_eq_some_iff.1 hb).1
  have := hd j (by simpa using hj)
  rw [Bool.and_eq_true, List.all_eq_true, List.all_eq_true] at this
  have := this.2 i (by simpa using hij)
  unfold pairOk at this
  rw [ha, hb] at this
  simpa [hc] using this
theorem draw_needs (hd : drawOk P ops = true) : ∀ j, j < ops.size → ∀ k ∈ needs ops j, k < j := by
  intro j hj k hk
  unfold drawOk at hd
  rw [List.all_eq_true] at hd
  have := hd j (by simpa using hj)
  rw [Bool.and_eq_true, List.all_eq_true, List.all_eq_true] at this
  have := this.1 k hk
  simpa [Nat.blt_eq] using this

section
variable {e : Env} {tr : List TrE} {Hf : AH} {E : Nat → Env} {Hs : Nat → AH} {V : Nat → Value}
theorem hs_at (hin : ∀ j o, ops[j]? = some o → opInert P o.op = true → Hs (j + 1) = Hs j) {m : Nat} : ∀ j, m ≤ j → j ≤ ops.size → (∀ i, m ≤ i → i < j → ¬ effAt P ops i) → Hs j = Hs m
  | 0, h, _, _ => by rw [Nat.le_zero.1 h]
  | j + 1, h, hj, hn => by
    by_cases hm : m = j + 1
    · rw [hm]
    · have ih := hs_at hin j (by omega) (by omega) fun i h1 h2 => hn i h1 (by omega)
      have ho : ops[j]? = some ops[j] := Array.getElem?_eq_getElem (by omega)
      have : opInert P ops[j].op = true := by
        cases hb : opInert P ops[j].op with
        | true => rfl
        | false => exact absurd ⟨_, ho, hb⟩ (hn j (by omega) (by omega))
      rw [hin j _ ho this, ih]
theorem filter_le {p q : Nat → Bool} (hpq : ∀ k, q k = true → p k = true) : ∀ l : List Nat, (l.filter q).length ≤ (l.filter p).length
  | [] => Nat.le_refl _
  | k :: l => by
    have ih := filter_le hpq l
    simp only [List.filter_cons]
    cases hq : q k with
    | true => rw [hpq k hq]; simpa using ih
    | false =>
      cases p k
      · simpa using ih
      · simp only [Bool.false_eq_true, if_false, if_true, List.length_cons]; omega
theorem filter_lt {p q : Nat → Bool} (hpq : ∀ k, q k = true → p k = true) {i : Nat} (hp : p i = true) (hq : q i = false) : ∀ l : List Nat, i ∈ l → (l.filter q).length < (l.filter p).length
  | k :: l, hi => by
    simp only [List.filter_cons]
    by_cases hk : i = k
    · subst hk
      rw [hp, hq]
      have := filter_le hpq l
      simp only [Bool.false_eq_true, if_false, if_true, List.length_cons]; omega
    · have ih := filter_lt hpq hp hq l (by simpa [hk] using hi)
      cases hqk : q k with
      | true => rw [hpq k hqk]; simpa using ih
      | false =>
        cases p k
        · simpa using ih
        · simp only [Bool.false_eq_true, if_false, if_true, List.length_cons]; omega
/-- the heap where these are listed. -/
def HC (P : Program) (ops : Array Oper) (Hs : Nat → AH) (S : Nat → Bool) (H : AH) : Prop :=
  (∃ m, m < ops.size ∧ effAt P ops m ∧ S m = true ∧ (∀ i, effAt P ops i → S i = true → i ≤ m) ∧ H = Hs (m + 1)) ∨ ((∀ i, effAt P ops i → S i = false) ∧ H = Hs 0)
theorem any_core (hF : FOk X F) (hd : drawOk P ops = true) (he : e.Wf) (hE0 : E 0 = e)
    (htr : ∀ j o, ops[j]? = some o → tr[j]? = some ⟨E j, Hs j, V j⟩ ∧ E (j + 1) = (E j).put o.dst (V j) ∧ evOne P F ops o (E j) (Hs j) = some (V j, Hs (j + 1)))
    (hheap : ∀ j, j ≤ ops.size → heapAt tr Hf j = Hs j) (hst : ∀ p ∈ chks P ops, stillAt P ops tr Hf p = true) (hQ : Q .normal (envS ops V (fun _ => true) e ops.size).act (Hs ops.size)) :
    ∀ (n : Nat) (listed : Array Bool) (H : AH), listed.size = ops.size → ((List.range ops.size).filter fun i => !listed.getD i false).length ≤ n → ShutS ops (fun i => listed.getD i false) →
      HC P ops Hs (fun i => listed.getD i false) H → anyA P X ro ops Q n listed (envS ops V (fun i => listed.getD i false) e ops.size).act H := by
  have hin : ∀ j o, ops[j]? = some o → opInert P o.op = true → Hs (j + 1) = Hs j := fun j o ho hi => evOne_inert hi (htr j o ho).2.2
  have hdone : ∀ (listed : Array Bool) (H : AH), listed.size = ops.size → HC P ops Hs (fun i => listed.getD i false) H → Region.ready .any ops listed = [] → Q .normal (envS ops V (fun i => listed.getD i false) e ops.size).act H := by
    intro listed H hl hc hr
    have hall := ready_none hl (draw_needs hd) hr
    have h1 : (envS ops V (fun i => listed.getD i false) e ops.size).act = (envS ops V (fun _ => true) e ops.size).act :=
      Env.act_ext (by rw [envS_n, envS_n]) (by rw [envS_ds, envS_ds]) fun t => envS_val _ fun i hi _ => hall i hi
    have h2 : H = Hs ops.size := by
      rcases hc with ⟨m, hm, hme, hms, hmax, rfl⟩ | ⟨hno, rfl⟩
      · refine (hs_at hin ops.size (by omega) (Nat.le_refl _) fun i h1 h2 hi => ?_).symm
        have := hmax i hi (hall i h2)
        omega
      · refine (hs_at hin ops.size (Nat.zero_le _) (Nat.le_refl _) fun i h1 h2 hi => ?_).symm
        have hno' : listed.getD i false = false := hno i hi
        rw [hall i h2] at hno'; cases hno'
    rw [h1, h2]; exact hQ
  intro n
  induction n with
  | zero =>
    intro listed H hl hcnt hs hc
    have hr : Region.ready .any ops listed = [] := by
      rw [List.eq_nil_iff_forall_not_mem]
      intro i hi
      obtain ⟨o, ho, h1, _⟩ := ready_spec hi
      have hlt : i < ops.size := (Array.getElem?_eq_some_iff.1 ho).1
      have hnil := List.length_eq_zero_iff.1 (Nat.le_zero.1 hcnt)
      rw [List.filter_eq_nil_iff] at hnil
      have := hnil i (by simpa using hlt)
      have h2 : listed.getD i false = false := by
        have : listed.getD i true = listed.getD i false := by simp [Array.getD, hl, hlt]
        rw [← this]; exact h1
      rw [h2] at this; exact this rfl
    exact ⟨hr, hdone listed H hl hc hr⟩
  | succ n ih =>
    intro listed H hl hcnt hs hc
    refine ⟨hdone listed H hl hc, fun i hi => ?_⟩
    obtain ⟨o, ho, h1, hneed⟩ := ready_spec hi
    have hlt : i < ops.size := (Array.getElem?_eq_some_iff.1 ho).1
    have hSi : listed.getD i false = false := by
      have : listed.getD i true = listed.getD i false := by simp [Array.getD, hl, hlt]
      rw [← this]; exact h1
    generalize hS : (fun i => listed.getD i false) = S at hs hc ⊢
    have hSe : ∀ k, listed.getD k false = S k := fun k => congrFun hS k
    have hSi' : S i = false := by rw [← hSe]; exact hSi
    have hneed' : ∀ k ∈ needs ops i, S k = true := fun k hk => by rw [← hSe]; exact hneed k hk
    have hSlt : ∀ k, S k = true → k < ops.size := by
      intro k hk
      rw [← hSe] at hk
      rcases Nat.lt_or_ge k ops.size with h | h
      · exact h
      · simp [Array.getD, hl, Nat.not_lt.2 h] at hk
    -- who is ordered with it
    have below : ∀ {k b}, k < i → ops[k]? = some b → clash P ops b o = true → S k = true := fun hk hb hcl => dep_in hs _ _ _ (pair_dep hd hk hb ho hcl) hneed'
    have above : ∀ {k b}, i < k → ops[k]? = some b → clash P ops o b = true → S k = false := by
      intro k b hk hb hcl
      cases hSk : S k with
      | false => rfl
      | true =>
        have := dep_in hs _ _ _ (pair_dep hd hk ho hb hcl) (hs k hSk)
        rw [hSi'] at this; cases this
    have agree : ∀ t ∈ touches ops o, ∀ k, writes ops k t → S k = decide (k < i) := by
      intro t ht k ⟨b, hb, hbt⟩
      rcases Nat.lt_trichotomy k i with h | h | h
      · rw [below h hb (clash_dst hbt ht)]; simp [h]
      · rw [h, hSi']; simp
      · rw [above h hb (clash_dst' hbt ht)]; simp; omega
    have hEi : envS ops V (fun k => decide (k < i)) e ops.size = E i := by
      rw [envS_all ops.size (by omega)]
      exact envS_prefix hE0 (fun k b _ hb => (htr k b hb).2.1) i (Nat.le_refl _) (by omega)
    have hval : ∀ t ∈ touches ops o, (envS ops V S e ops.size).val t = (E i).val t := by
      intro t ht
      rw [← hEi]
      exact envS_val _ fun k _ hk => agree t ht k hk
    have hEn : (E i).n = e.n := by rw [← hEi, envS_n]
    have hwf : (envS ops V S e ops.size).Wf := envS_wf he _
    have hEwf : (E i).Wf := by rw [← hEi]; exact envS_wf he _
    obtain ⟨ht1, ht2, ht3⟩ := htr i o ho
    -- the next listing
    have hS2 : ∀ k, (listed.setIfInBounds i true).getD k false = if k = i then true else S k := by
      intro k
      rw [← hSe]
      simp only [Array.getD_eq_getD_getElem?, Array.getElem?_setIfInBounds]
      by_cases hk : i = k
      · subst hk; simp [hl, hlt]
      · rw [if_neg hk, if_neg (fun h => hk h.symm)]
    have hshut2 : ShutS ops (fun k => (listed.setIfInBounds i true).getD k false) := by
      intro j hj k hk
      dsimp only at hj ⊢
      rw [hS2] at hj ⊢
      by_cases hki : k = i
      · rw [if_pos hki]
      · rw [if_neg hki]
        by_cases hji : j = i
        · subst hji; exact hneed' k hk
        · rw [if_neg hji] at hj; exact hs j hj k hk
    have hcnt2 : ((List.range ops.size).filter fun k => !(listed.setIfInBounds i true).getD k false).length ≤ n := by
      have := filter_lt (p := fun k => !listed.getD k false) (q := fun k => !(listed.setIfInBounds i true).getD k false) (fun k hk => by
        rw [hS2] at hk
        by_cases hki : k = i
        · rw [if_pos hki] at hk; cases hk
        · rw [if_neg hki] at hk; rw [hSe]; exact hk) (i := i) (by rw [hSi]; rfl) (by rw [hS2, if_pos rfl]; rfl) (List.range ops.size) (by simpa using hlt)
      omega
    have hact2 : (envS ops V (fun k => (listed.setIfInBounds i true).getD k false) e ops.size).act = (envS ops V S e ops.size).act.put o.dst (V i) := by
      rw [← Env.act_put]
      refine Env.act_ext (by rw [Env.put_n, envS_n, envS_n]) (by rw [Env.put_ds, envS_ds, envS_ds]) fun t => ?_
      rw [Env.put_val, envS_n]
      by_cases hdt : o.dst = some t
      · have htt : t ∈ touches ops o := by simp [touches, hdt]
        have h2 : (envS ops V (fun k => (listed.setIfInBounds i true).getD k false) e ops.size).val t = (E (i + 1)).val t := by
          have hE2 : envS ops V (fun k => decide (k < i + 1)) e ops.size = E (i + 1) := by
            rw [envS_all ops.size (by omega)]
            exact envS_prefix hE0 (fun k b _ hb => (htr k b hb).2.1) (i + 1) (Nat.le_refl _) (by omega)
          rw [← hE2]
          refine envS_val _ fun k _ hk => ?_
          rw [hS2]
          by_cases hki : k = i
          · subst hki; simp
          · rw [if_neg hki, agree t htt k hk]; congr 1; simp only [eq_iff_iff]; omega
        rw [h2, ht2, Env.put_val, hEn, hval t htt]
      · rw [if_neg (fun hc => hdt hc.1)]
        refine envS_val _ fun k _ hk => ?_
        rw [hS2, if_neg]
        rintro rfl
        obtain ⟨b, hb, hbt⟩ := hk
        rw [ho] at hb; cases hb
        exact hdt hbt
    have next : ∀ H2, HC P ops Hs (fun k => if k = i then true else S k) H2 → anyA P X ro ops Q n (listed.setIfInBounds i true) ((envS ops V S e ops.size).act.put o.dst (V i)) H2 := by
      intro H2 hc2
      rw [← hact2]
      refine ih _ H2 (by simpa using hl) hcnt2 hshut2 ?_
      have : (fun k => (listed.setIfInBounds i true).getD k false) = fun k => if k = i then true else S k := funext hS2
      rw [this]; exact hc2
    -- what the heap is
    have hinert : opInert P o.op = true → ∀ {H2}, HC P ops Hs S H2 → HC P ops Hs (fun k => if k = i then true else S k) H2 := by
      intro hio H2 hc2
      have hne : ∀ k, effAt P ops k → k ≠ i := by
        rintro k ⟨b, hb, hbe⟩ rfl
        rw [ho] at hb; cases hb; rw [hio] at hbe; cases hbe
      rcases hc2 with ⟨m, m1, m2, m3, m4, m5⟩ | ⟨m1, m2⟩
      · refine .inl ⟨m, m1, m2, ?_, fun k hk hks => m4 k hk ?_, m5⟩
        · exact (if_neg (hne m m2)).trans m3
        · exact (if_neg (hne k hk)).symm.trans hks
      · exact .inr ⟨fun k hk => (if_neg (hne k hk)).trans (m1 k hk), m2⟩
    have heff : opInert P o.op = false → H = Hs i ∧ HC P ops Hs (fun k => if k = i then true else S k) (Hs (i + 1)) := by
      intro hoe
      have hb : ∀ {k}, effAt P ops k → k < i → S k = true := fun ⟨b, hb, hbe⟩ hk => below hk hb (clash_eff hbe hoe)
      have ha : ∀ {k}, effAt P ops k → i < k → S k = false := fun ⟨b, hb, hbe⟩ hk => above hk hb (clash_eff hoe hbe)
      refine ⟨?_, .inl ⟨i, hlt, ⟨o, ho, hoe⟩, if_pos rfl, fun k hk hks => ?_, rfl⟩⟩
      · rcases hc with ⟨m, m1, m2, m3, m4, m5⟩ | ⟨m1, m2⟩
        · have hmi : m < i := by
            rcases Nat.lt_trichotomy m i with h | h | h
            · exact h
            · rw [h, hSi'] at m3; cases m3
            · rw [ha m2 h] at m3; cases m3
          rw [m5]
          exact (hs_at hin i (by omega) (by omega) fun k h1 h2 hk => by have := m4 k hk (hb hk h2); omega).symm
        · rw [m2]
          exact (hs_at hin i (Nat.zero_le _) (by omega) fun k h1 h2 hk => by have := m1 k hk; rw [hb hk h2] at this; cases this).symm
      · rcases Nat.lt_trichotomy k i with h | h | h
        · omega
        · omega
        · have hks : S k = true := (if_neg (show ¬ k = i by omega)).symm.trans hks
          rw [ha hk h] at hks; cases hks
    have hwant : Region.wanted o (yieldE ops (envS ops V S e ops.size)) = Region.wanted o (yieldE ops (E i)) := by
      unfold Region.wanted
      split
      · rfl
      · rename_i g want hg
        have : yieldE ops (envS ops V S e ops.size) g = yieldE ops (E i) g := by
          unfold yieldE
          cases hgd : (ops[g]?).bind (·.dst) with
          | none => rfl
          | some t =>
            have htt : t ∈ touches ops o := by simp [touches, guardTmp, hg, hgd]
            show yieldT _ t = yieldT _ t
            unfold yieldT
            rw [hval t htt, envS_n, hEn]
        rw [this]
    unfold opA
    rw [ho]
    dsimp only
    rw [← yieldE_eq, hwant]
    have hop : aOp P (envS ops V S e ops.size).act.eval o H = fOp P (E i).eval o H := by
      rw [fOp_eq]
      refine aOp_congr fun z hz => ?_
      rw [Env.act_eval hwf]
      cases z with
      | tmp t =>
        refine hval t ?_
        simp only [touches, List.append_assoc, List.mem_append, List.mem_filterMap]
        exact .inl ⟨.tmp t, by simpa using hz, rfl⟩
      | const v => rfl
      | global g => rfl
      | func f => rfl
    unfold evOne at ht3
    split at ht3
    · rename_i hw
      rw [hw, if_neg Bool.false_ne_true]
      have hu : undef = V i ∧ Hs i = Hs (i + 1) := by
        have := Option.some.inj ht3
        exact ⟨congrArg Prod.fst this, congrArg Prod.snd this⟩
      rw [hu.1]
      refine next H ?_
      cases hio : opInert P o.op with
      | true => exact hinert hio hc
      | false =>
        obtain ⟨g1, g2⟩ := heff hio
        rw [g1, hu.2]; exact g2
    · rename_i hw
      rw [hw, if_pos rfl, hop]
      cases hio : opInert P o.op with
      | true =>
        have hown : fOp P (E i).eval o (Hs i) = .vals [(V i, Hs i)] := by
          rw [hio] at ht3
          dsimp only at ht3
          split at ht3
          · rename_i v H1 heq
            rw [forceV_eq] at ht3
            obtain ⟨v2, hx⟩ := inert_vals hio (by rw [← fOp_eq]; exact heq)
            cases hx
            rw [heq, show v = V i from congrArg Prod.fst (Option.some.inj ht3)]
          · cases ht3
        have hgo : fOp P (E i).eval o H = .vals [(V i, H)] := by
          by_cases hp : opPure o.op = true
          · rw [fOp_eq] at hown ⊢; exact pure_any hp hown
          · have hpf : opPure o.op = false := by simpa using hp
            have hsame : ∀ s, s ≤ ops.size → (i, s) ∈ chks P ops → H = Hs s → fOp P (E i).eval o H = .vals [(V i, H)] := by
              intro s hs1 hs2 hs3
              have := hst _ hs2
              unfold stillAt at this
              rw [ho, ht1] at this
              simp only [hw, Bool.not_true, Bool.false_or] at this
              rw [hheap s hs1, ← hs3] at this
              unfold sameAt at this
              dsimp only at this
              split at this
              · rename_i v Hx heq
                have hv := eqV_eq _ _ _ this
                obtain ⟨v2, hx⟩ := inert_vals hio (by rw [← fOp_eq]; exact heq)
                cases hx
                rw [heq, hv]
              · cases this
            have hmem : ∀ s, ((s = 0 ∧ chk0 P ops i = true) ∨ ∃ m, m < ops.size ∧ chkAt P ops i m = true ∧ s = m + 1) → (i, s) ∈ chks P ops := by
              intro s hs1
              unfold chks
              rw [List.mem_flatMap]
              refine ⟨i, by simpa using hlt, ?_⟩
              rw [ho]
              dsimp only
              rw [hio, hpf]
              simp only [Bool.not_false, Bool.and_true, List.mem_append, List.mem_map, List.mem_filter, List.mem_range, Prod.mk.injEq, true_and]
              rcases hs1 with ⟨rfl, h0⟩ | ⟨m, h1, h2, rfl⟩
              · left; rw [h0]; simp
              · right; exact ⟨m, ⟨h1, h2⟩, rfl⟩
            rcases hc with ⟨m, m1, m2, m3, m4, m5⟩ | ⟨m1, m2⟩
            · cases hck : chkAt P ops i m with
              | true => exact hsame (m + 1) (by omega) (hmem _ (.inr ⟨m, m1, hck, rfl⟩)) m5
              | false =>
                unfold chkAt at hck
                rw [isEff_iff.2 m2] at hck
                simp only [Bool.true_and, Bool.and_eq_false_iff, Bool.not_eq_false'] at hck
                rcases hck with h | h | h
                · have := dep_in hs _ _ _ h (hs m m3)
                  rw [hSi'] at this; cases this
                · rw [List.any_eq_true] at h
                  obtain ⟨k, hk, h⟩ := h
                  simp only [Bool.and_eq_true] at h
                  have h2 := m4 k (isEff_iff.1 h.1.1) (dep_in hs _ _ _ h.1.2 hneed')
                  have h3 : m < k := by simpa [Nat.blt_eq] using h.2
                  omega
                · rw [Bool.and_eq_true, List.all_eq_true] at h
                  obtain ⟨h1, h2⟩ := h
                  have hmi : m < i := by simpa [Nat.blt_eq] using h1
                  have heq : H = Hs i := by
                    rw [m5]
                    refine (hs_at hin i (by omega) (by omega) fun k q1 q2 q3 => ?_).symm
                    have := h2 k (by simp; omega)
                    rw [isEff_iff.2 q3] at this
                    simp only [Bool.not_true, Bool.false_or, Bool.or_eq_true] at this
                    rcases this with h | h
                    · have := Nat.le_of_ble_eq_true h; omega
                    · have := Nat.le_of_ble_eq_true h; omega
                  rw [heq]; exact hown
            · cases hck : chk0 P ops i with
              | true => exact hsame 0 (Nat.zero_le _) (hmem _ (.inl ⟨rfl, hck⟩)) m2
              | false =>
                unfold chk0 at hck
                simp only [Bool.and_eq_false_iff, Bool.not_eq_false'] at hck
                rcases hck with h | h
                · rw [List.any_eq_true] at h
                  obtain ⟨k, hk, h⟩ := h
                  simp only [Bool.and_eq_true] at h
                  have h2 := m1 k (isEff_iff.1 h.1)
                  rw [dep_in hs _ _ _ h.2 hneed'] at h2; cases h2
                · rw [List.any_eq_false] at h
                  have heq : H = Hs i := by
                    rw [m2]
                    refine (hs_at hin i (Nat.zero_le _) (by omega) fun k _ q2 q3 => ?_).symm
                    have := h k (by simp; omega)
                    rw [isEff_iff.2 q3] at this
                    simp [Nat.blt_eq] at this
                    omega
                  rw [heq]; exact hown
        rw [hgo]
        intro r hr
        cases List.mem_singleton.1 hr
        exact next H (hinert hio hc)
      | false =>
        obtain ⟨g1, g2⟩ := heff hio
        rw [hio] at ht3
        dsimp only at ht3
        rw [g1]
        split at ht3
        · rename_i v H1 heq
          rw [normH_eq, forceV_eq] at ht3
          cases ht3
          rw [heq]
          intro r hr
          cases List.mem_singleton.1 hr
          exact next _ g2
        · rename_i H1 heq
          rw [normH_eq] at ht3
          have hu := Option.some.inj ht3
          rw [heq]
          show anyA P X ro ops Q n _ (Act.put _ _ undef) H1
          rw [(Prod.mk.inj hu).1, (Prod.mk.inj hu).2]
          exact next _ g2
        · rename_i f args H1 heq
          rw [normH_eq] at ht3
          split at ht3
          · rename_i v H2 hF2
            have hu := Option.some.inj ht3
            rw [heq]
            refine hF _ _ _ _ hF2 _ ?_
            show anyA P X ro ops Q n _ (Act.put _ _ v) H2
            rw [(Prod.mk.inj hu).1, (Prod.mk.inj hu).2]
            exact next _ g2
          · cases ht3
        · rename_i l args H1 heq
          rw [normH_eq] at ht3
          split at ht3
          · rename_i v H2 hF2
            have hu := Option.some.inj ht3
            rw [heq]
            refine hF _ _ _ _ hF2 _ ?_
            show anyA P X ro ops Q n _ (Act.put _ _ v) H2
            rw [(Prod.mk.inj hu).1, (Prod.mk.inj hu).2]
            exact next _ g2
          · cases ht3
        · cases ht3
end
theorem evAny_ok (hF : FOk X F) {e : Env} {H : AH} {x : Exit} {e' : Env} {H' : AH} (he : e.Wf) (h : evAny P F ops e H = .mk x e' H') :
    e'.Wf ∧ (Q x e'.act H' → anyA P X ro ops Q ops.size (Array.replicate ops.size false) e.act H) := by
  unfold evAny at h
  split at h
  · cases h
  · rename_i lc hpl
    have hd : drawOk P ops = true := by
      unfold plan at hpl
      cases hq : drawOk P ops with
      | true => rfl
      | false => rw [hq] at hpl; cases hpl
    have hlc : lc = chks P ops := by
      unfold plan at hpl
      rw [hd] at hpl
      have hpl : forceP (chks P ops) some = some lc := hpl
      rw [forceP_eq] at hpl
      exact (Option.some.inj hpl).symm
    subst hlc
    split at h
    · cases h
    · rename_i tr ef Hf ht
      split at h
      · rename_i hall
        cases h
        obtain ⟨E, Hs, V, t1, t2, t3, t4, t5, t6⟩ := evTr_facts _ _ _ ht
        rw [Array.length_toList] at t3 t4 t5
        have htr : ∀ j o, ops[j]? = some o → tr[j]? = some ⟨E j, Hs j, V j⟩ ∧ E (j + 1) = (E j).put o.dst (V j) ∧ evOne P F ops o (E j) (Hs j) = some (V j, Hs (j + 1)) :=
          fun j o ho => t6 j o (by rw [Array.getElem?_toList]; exact ho)
        have hheap : ∀ j, j ≤ ops.size → heapAt tr H' j = Hs j := by
          intro j hj
          rw [t4 j]
          split
          · rfl
          · rw [show j = ops.size by omega, t5]
        have hE : envS ops V (fun _ => true) e ops.size = e' := by
          have h1 := envS_prefix (ops := ops) (V := V) (j := ops.size) t1 (fun k b _ hb => (htr k b hb).2.1) ops.size (Nat.le_refl _) (Nat.le_refl _)
          rw [t3] at h1
          rw [← h1]
          have : ∀ n, n ≤ ops.size → envS ops V (fun _ => true) e n = envS ops V (fun i => decide (i < ops.size)) e n := by
            intro n
            induction n with
            | zero => intro _; rfl
            | succ n ih =>
              intro hn
              unfold envS
              rw [ih (by omega)]
              have : decide (n < ops.size) = true := by simp; omega
              rw [this]
          exact this _ (Nat.le_refl _)
        have hwf : e'.Wf := by rw [← hE]; exact envS_wf he _
        refine ⟨hwf, fun q => ?_⟩
        have hfalse : ∀ i, (Array.replicate ops.size false).getD i false = false := by
          intro i
          simp only [Array.getD_eq_getD_getElem?, Array.getElem?_replicate]
          split <;> rfl
        have hcore := any_core (ro := ro) (Q := Q) (Hf := H') hF hd he t1 htr hheap (fun p hp => by
          rw [List.all_eq_true] at hall; exact hall p hp) (by rw [hE, t5]; exact q) ops.size (Array.replicate ops.size false) H (by simp)
          (Nat.le_trans (List.length_filter_le _ _) (by simp)) (fun j hj => by dsimp only at hj; rw [hfalse] at hj; cases hj) (.inr ⟨fun i _ => hfalse i, t2.symm⟩)
        have h0 : envS ops V (fun i => (Array.replicate ops.size false).getD i false) e ops.size = e := by
          have : ∀ n, envS ops V (fun i => (Array.replicate ops.size false).getD i false) e n = e := by
            intro n
            induction n with
            | zero => rfl
            | succ n ih =>
              unfold envS
              rw [ih, hfalse]
              cases ops[n]? <;> rfl
          exact this _
        rw [h0] at hcore
        exact hcore
      · cases h
end Go.Mt
/- What the computation of code comes to holds of W. -/
namespace Go.Mt
variable {P : Program} {X : Fns} {F : EvF} {ro : Option Nat} {x : Exit} {e' : Env} {H' : AH} {Q : Post}

theorem thenA_other {K : Pre} {x : Exit} (hx : x ≠ .normal) {a : Act} {H : AH} (q : Q x a H) : thenA K Q x a H := by
  cases x <;> first | exact absurd rfl hx | exact q
theorem evC_ok (hF : FOk X F) : ∀ (n : Nat) (ro : Option Nat) (c : Code) (x : Exit) (e' : Env) (H' : AH) (Q : Post), KOk (evC P F n ro c) (wpC P X ro c Q) x e' H' (Q x e'.act H') := by
  intro n
  induction n using Nat.strongRecOn with
  | _ n ih =>
  intro ro c x e' H' Q e H he h
  cases n with
  | zero => cases h
  | succ n =>
  have ihn := ih n (Nat.lt_succ_self n)
  cases c with
  | skip => cases h; exact ⟨he, fun q => q⟩
  | label l => cases h; exact ⟨he, fun q => q⟩
  | exit id => cases h; exact ⟨he, fun q => q⟩
  | goto l => cases h; exact ⟨he, fun q => q⟩
  | ret => cases h; exact ⟨he, fun q => q⟩
  | refuse w => cases h
  | region id ops d =>
    cases d with
    | true => exact evAny_ok hF he h
    | false =>
      have := evOps_ok (ro := ro) (Q := Q) (P := P) hF ops.toList 0 rfl e H he h
      rw [Array.length_toList, ← List.range_eq_range'] at this
      exact this
  | seq y z =>
    cases hy : evC P F n ro y e H with
    | bad w => simp only [evC, hy] at h; cases h
    | mk x1 e1 H1 =>
      by_cases hx : x1 = .normal
      · subst hx
        simp only [evC, hy] at h
        have h1 := ihn ro y .normal e1 H1 (thenA (wpC P X ro z Q) Q) e H he hy
        have h2 := ihn ro z x e' H' Q e1 H1 h1.1 h
        exact ⟨h2.1, fun q => h1.2 (h2.2 q)⟩
      · have h' : evC P F (n + 1) ro (.seq y z) e H = .mk x1 e1 H1 := by
          simp only [evC, hy]
          cases x1 <;> first | rfl | exact absurd rfl hx
        rw [h'] at h; cases h
        have h1 := ihn ro y x e' H' (thenA (wpC P X ro z Q) Q) e H he hy
        exact ⟨h1.1, fun q => h1.2 (thenA_other hx q)⟩
  | cond c y z =>
    simp only [evC] at h
    split at h
    · rename_i b hb
      cases b with
      | true =>
        have h1 := ihn ro y x e' H' Q e H he h
        exact ⟨h1.1, fun q => ⟨true, (Env.act_eval he c).trans hb, h1.2 q⟩⟩
      | false =>
        have h1 := ihn ro z x e' H' Q e H he h
        exact ⟨h1.1, fun q => ⟨false, (Env.act_eval he c).trans hb, h1.2 q⟩⟩
    · cases h
  | block id c =>
    cases hy : evC P F n ro c e H with
    | bad w => simp only [evC, hy] at h; cases h
    | mk x1 e1 H1 =>
      by_cases hx : ∃ id', x1 = .exit id'
      · obtain ⟨id', rfl⟩ := hx
        simp only [evC, hy] at h
        have h1 := ihn ro c (.exit id') e1 H1 (blockA id Q) e H he hy
        cases hid : Nat.beq id' id with
        | true =>
          rw [hid] at h
          cases h
          have : id' = id := Nat.eq_of_beq_eq_true hid
          subst this
          exact ⟨h1.1, fun q => h1.2 (by simp only [blockA, if_true]; exact q)⟩
        | false =>
          rw [hid] at h
          cases h
          have : id' ≠ id := Nat.ne_of_beq_eq_false hid
          exact ⟨h1.1, fun q => h1.2 (by simp only [blockA, if_neg this]; exact q)⟩
      · have h' : evC P F (n + 1) ro (.block id c) e H = .mk x1 e1 H1 := by
          simp only [evC, hy]
          cases x1 <;> first | rfl | exact absurd ⟨_, rfl⟩ hx
        rw [h'] at h; cases h
        have h1 := ihn ro c x e' H' (blockA id Q) e H he hy
        refine ⟨h1.1, fun q => h1.2 ?_⟩
        cases x <;> first | exact q | exact absurd ⟨_, rfl⟩ hx
  | loop c =>
    have hwf : e'.Wf := by
      cases hy : evC P F n ro c e H with
      | bad w => simp only [evC, hy] at h; cases h
      | mk x1 e1 H1 =>
        by_cases hx : x1 = .normal
        · subst hx
          simp only [evC, hy] at h
          have h1 := ihn ro c .normal e1 H1 (fun _ _ _ => True) e H he hy
          exact (ihn ro (.loop c) x e' H' Q e1 H1 h1.1 h).1
        · have h' : evC P F (n + 1) ro (.loop c) e H = .mk x1 e1 H1 := by
            simp only [evC, hy]
            cases x1 <;> first | rfl | exact absurd rfl hx
          rw [h'] at h; cases h
          exact (ihn ro c x e' H' (fun _ _ _ => True) e H he hy).1
    refine ⟨hwf, fun q => ⟨fun m a H => m ≤ n + 1 ∧ ∃ e1 : Env, e1.Wf ∧ e1.act = a ∧ evC P F m ro (.loop c) e1 H = .mk x e' H', ⟨n + 1, Nat.le_refl _, e, he, rfl, h⟩, ?_⟩⟩
    intro m a H1 ⟨hm, e1, he1, ha, h1⟩
    subst ha
    cases m with
    | zero => cases h1
    | succ m =>
      cases hy : evC P F m ro c e1 H1 with
      | bad w => simp only [evC, hy] at h1; cases h1
      | mk x2 e2 H2 =>
        have key := fun Q' => ih m (Nat.lt_of_succ_le hm) ro c x2 e2 H2 Q' e1 H1 he1 hy
        by_cases hx : x2 = .normal
        · subst hx
          simp only [evC, hy] at h1
          exact (key _).2 ⟨m, Nat.lt_succ_self m, Nat.le_of_succ_le hm, e2, (key Q).1, rfl, h1⟩
        · have h' : evC P F (m + 1) ro (.loop c) e1 H1 = .mk x2 e2 H2 := by
            simp only [evC, hy]
            cases x2 <;> first | rfl | exact absurd rfl hx
          rw [h'] at h1; cases h1
          exact (key _).2 (thenA_other hx q)
  | scope c =>
    cases hy : evC P F n ro c e H with
    | bad w => simp only [evC, hy] at h; cases h
    | mk x1 e1 H1 =>
      by_cases hx : ∃ l, x1 = .goto l
      · obtain ⟨l, rfl⟩ := hx
        simp only [evC, hy] at h; cases h
      · have h' : evC P F (n + 1) ro (.scope c) e H = .mk x1 e1 H1 := by
          simp only [evC, hy]
          cases x1 <;> first | rfl | exact absurd ⟨_, rfl⟩ hx
        rw [h'] at h; cases h
        have h1 := ihn ro c x e' H' (fun e a H => match e with | .goto _ => False | e => Q e a H) e H he hy
        refine ⟨h1.1, fun q => h1.2 ?_⟩
        cases x <;> first | exact q | exact absurd ⟨_, rfl⟩ hx
  | rangeFunc g ps y z =>
    simp only [evC, forceN_eq] at h
    cases ro with
    | none =>
      simp only [forceL_eq, normH_eq] at h
      obtain ⟨t, m, ds⟩ := e
      dsimp only at h
      have hw : Env.Wf ⟨t, m, { target := .collected H.next, args := #[] } :: ds⟩ := he
      have := evRange_ok (Q := Q) hF hw h
      refine ⟨this.1, fun q => ?_⟩
      have h2 := this.2 q
      have hev := Env.act_eval he g
      show rangeA P X Q (Act.eval (Env.act ⟨t, m, ds⟩) g) (H.next + 1) _ _
      rw [hev]
      exact h2
    | some l0 =>
      dsimp only at h
      split at h
      · rename_i r0 hr0
        simp only [forceL_eq, normH_eq] at h
        have := evRange_ok (Q := Q) hF he h
        refine ⟨this.1, fun q => ⟨r0, hr0, ?_⟩⟩
        have h2 := this.2 q
        rw [Env.act_eval he g]
        exact h2
      · cases h
end Go.Mt
/- What the computation of a function comes to holds of W. -/
namespace Go.Mt
variable {P : Program} {X : Fns} {F : EvF} {α β : Type}

noncomputable def lay : List Value → Nat → T Value → T Value
  | [], _, t => t
  | v :: l, i, t => lay l (i + 1) (t.set i v)
theorem layK_eq (k : T Value → β) : ∀ (l : List Value) (i : Nat) (t : T Value), layK k l i t = k (lay l i t)
  | [], _, _ => rfl
  | v :: l, i, t => by
    show (forceV v fun v => (T.set t i v).force (layK k l (i + 1))) = _
    rw [forceV_eq, T.force_eq, layK_eq k l]; rfl
theorem lay_get : ∀ (l : List Value) (i : Nat) (t : T Value) (j : Nat), (lay l i t).get j = if i ≤ j ∧ j < i + l.length then l[j - i]? else t.get j
  | [], i, t, j => by rw [if_neg (by simp)]; rfl
  | v :: l, i, t, j => by
    show (lay l (i + 1) (t.set i v)).get j = _
    rw [lay_get l (i + 1) _ j, T.get_set]
    simp only [List.length_cons]
    by_cases h1 : j = i
    · subst h1
      rw [if_neg (by omega), if_pos rfl, if_pos (by omega)]; simp
    · by_cases h2 : i + 1 ≤ j ∧ j < i + 1 + l.length
      · rw [if_pos h2, if_pos (by omega)]
        rw [show j - i = (j - (i + 1)) + 1 by omega, List.getElem?_cons_succ]
      · rw [if_neg h2, if_neg h1, if_neg (by omega)]
theorem lenL_eq (l : List α) : lenL l = l.length := by
  induction l with
  | nil => rfl
  | cons x l ih => show Nat.succ (lenL l) = _; rw [ih]; rfl
noncomputable def mkEnv (args : List Value) (n : Nat) : Env := ⟨lay args 0 .nil, max n args.length, []⟩
theorem mkEnvK_eq (args : List Value) (n : Nat) (k : Env → β) : mkEnvK args n k = k (mkEnv args n) := by
  unfold mkEnvK
  rw [layK_eq]
  cases h : Nat.ble (lenL args) n with
  | true =>
    have : args.length ≤ n := by rw [← lenL_eq]; exact Nat.le_of_ble_eq_true h
    show k ⟨_, n, []⟩ = _
    unfold mkEnv; rw [Nat.max_eq_left this]
  | false =>
    have : ¬ args.length ≤ n := fun e => by rw [← lenL_eq] at e; rw [Nat.ble_eq_true_of_le e] at h; cases h
    show (forceN (lenL args) fun m => k ⟨_, m, []⟩) = _
    rw [forceN_eq, lenL_eq]
    unfold mkEnv; rw [Nat.max_eq_right (by omega)]
theorem mkEnv_wf (args : List Value) (n : Nat) : (mkEnv args n).Wf := by
  intro t ht
  have ht : max n args.length ≤ t := ht
  show (lay args 0 .nil).get t = none
  rw [lay_get, if_neg (by omega)]; rfl
theorem mkEnv_tmps (args : List Value) (n : Nat) : (mkEnv args n).act.tmps = (⟨args⟩ : Array Value) ++ Array.replicate (n - args.length) undef := by
  apply Array.toList_inj.1
  apply List.ext_getElem?
  intro i
  simp only [Env.act, Env.arr, mkEnv, List.getElem?_map, Array.toList_append, Array.toList_replicate]
  by_cases h1 : i < args.length
  · rw [List.getElem?_append_left h1]
    have : (List.range (max n args.length))[i]? = some i := List.getElem?_range (by omega)
    rw [this]
    simp only [Option.map_some, Env.val]
    rw [lay_get, if_pos (by omega)]
    simp [List.getElem?_eq_getElem h1]
  · rw [List.getElem?_append_right (by omega)]
    by_cases h2 : i < n
    · have : (List.range (max n args.length))[i]? = some i := List.getElem?_range (by omega)
      rw [this, List.getElem?_replicate, if_pos (by omega)]
      simp only [Option.map_some, Env.val]
      rw [lay_get, if_neg (by omega)]; rfl
    · have : (List.range (max n args.length))[i]? = none := by simp; omega
      rw [this, List.getElem?_replicate, if_neg (by omega)]; rfl
theorem mkEnv_enter (fn : Func) (args : List Value) : (mkEnv args fn.ntmps).act = enterAct fn args := by
  have := mkEnv_tmps args fn.ntmps
  unfold enterAct
  rw [← this]; rfl
theorem mkEnv_zero (args : List Value) : (mkEnv args 0).act = { tmps := ⟨args⟩, defers := [] } := by
  have := mkEnv_tmps args 0
  have h2 : (mkEnv args 0).act = { tmps := (mkEnv args 0).act.tmps, defers := [] } := rfl
  rw [h2, this]; simp

theorem evR_ok {e : Env} (he : e.Wf) {H : AH} {fn : Func} {k : Value → RetO} {r : Ret} {H' : AH} (h : evR P e H fn.results.toList k = .mk r H') : ∃ v, aResults P fn e.act.tmps H = some v ∧ k v = .mk r H' := by
  rw [aResults_eq (resE P H e) fun r => by
    cases r with
    | tmp t => exact (congrArg some (Env.act_eval he (.tmp t))).symm
    | cell a t => exact (congrArg (aLoad P H t) (Env.act_eval he (.tmp a))).symm]
  unfold evR at h
  revert h
  generalize fn.results.toList.mapM (resE P H e) = q
  intro h
  split at h
  · rw [forceV_eq] at h; exact ⟨_, rfl, h⟩
  · rename_i vs hn
    refine ⟨_, ?_, h⟩
    cases vs with
    | nil => rfl
    | cons a l => cases l with
      | nil => exact absurd rfl (hn a)
      | cons b l => rfl
  · cases h
theorem evLeave_ok (hF : FOk X F) {fn : Func} {e : Env} (he : e.Wf) {r : Ret} {H' : AH} {R : Ret → AH → Prop} (hR : R r H') : ∀ (l : List Deferred) (u : FrameMode) (H : AH), evLeave P F fn e l u H = .mk r H' → leaveA P X fn e.act.tmps R l u H
  | [], u, H, h => by
    cases u with
    | returning =>
      obtain ⟨v, h1, h2⟩ := evR_ok he (show evR P e H fn.results.toList (fun v => .mk (.ret v) H) = .mk r H' from h)
      cases h2
      exact ⟨v, h1, hR⟩
    | panicking c => cases (show RetO.mk (.pan c) H = .mk r H' from h); exact hR
    | run => cases h
  | ⟨t, args⟩ :: l, u, H, h => by
    have ih := evLeave_ok (fn := fn) hF he hR l
    cases t with
    | collected b =>
      have h : (match H.get b with
        | some (.obj (.deferred (some []))) => normH (H.set b (.obj (.deferred none))) fun H => evLeave P F fn e l u H
        | _ => RetO.bad "collected") = .mk r H' := h
      split at h
      · rename_i hb
        rw [normH_eq] at h
        exact ⟨hb, ih u _ h⟩
      · cases h
    | fn f cap =>
      cases f with
      | func f =>
        have h : (match bodyOf P f with
          | true => match F (.dfn f (args.toList ++ cap.toList)) H with
            | .mk (.ret _) H => evLeave P F fn e l (settle u) H
            | .mk (.pan c) H => evLeave P F fn e l (raised u c) H
            | .bad w => .bad w
          | false => RetO.bad "body") = .mk r H' := h
        split at h
        · rename_i hb
          cases hc : F (.dfn f (args.toList ++ cap.toList)) H with
          | bad w => rw [hc] at h; cases h
          | mk r2 H2 =>
            rw [hc] at h
            refine ⟨hb, hF _ _ _ _ hc _ ?_⟩
            cases r2 with
            | ret v => exact ih _ _ h
            | pan c => exact ih _ _ h
        · cases h
      | _ => cases h
    | _ => cases h
theorem evFull_ok (hF : FOk X F) {fn : Func} {o : Out} {r : Ret} {H' : AH} {R : Ret → AH → Prop} (hR : R r H') (h : evFull P F fn o = .mk r H') :
    ∃ x e1 H1, o = .mk x e1 H1 ∧ (e1.Wf → leavePost P X fn R x e1.act H1) := by
  cases o with
  | bad w => cases h
  | mk x e1 H1 =>
    refine ⟨x, e1, H1, rfl, fun he => ?_⟩
    cases x with
    | normal => exact evLeave_ok hF he hR _ _ _ h
    | ret => exact evLeave_ok hF he hR _ _ _ h
    | panic c => exact evLeave_ok hF he hR _ _ _ h
    | _ => cases h
theorem evPlain_ok {fn : Func} {o : Out} {r : Ret} {H' : AH} {R : Ret → AH → Prop} (hR : R r H') (h : evPlain P fn o = .mk r H') :
    ∃ x e1 H1, o = .mk x e1 H1 ∧ (e1.Wf → plainPost P fn R x e1.act H1) := by
  cases o with
  | bad w => cases h
  | mk x e1 H1 =>
    refine ⟨x, e1, H1, rfl, fun he => ?_⟩
    have hds : ∀ {z : RetO}, (match e1.ds with | [] => z | _ => .bad "defers") = .mk r H' → e1.act.defers = [] ∧ z = .mk r H' := by
      intro z hz
      split at hz
      · rename_i hd; exact ⟨hd, hz⟩
      · cases hz
    cases x with
    | normal =>
      obtain ⟨h1, h2⟩ := hds h
      obtain ⟨v, h3, h4⟩ := evR_ok he h2
      cases h4
      exact ⟨h1, v, h3, hR⟩
    | ret =>
      obtain ⟨h1, h2⟩ := hds h
      obtain ⟨v, h3, h4⟩ := evR_ok he h2
      cases h4
      exact ⟨h1, v, h3, hR⟩
    | panic c =>
      obtain ⟨h1, h2⟩ := hds h
      cases h2
      exact ⟨h1, hR⟩
    | _ => cases h
theorem bodyFor_ok {f : FuncId} {fn : Func} {c : Code} (h : bodyFor P f = some (fn, c)) : P.funcs[f]? = some fn ∧ fn.body = some c ∧ codeOk P c = true := by
  unfold bodyFor at h
  split at h <;> try cases h
  rename_i fn' hf
  split at h <;> try cases h
  rename_i c' hb
  split at h <;> cases h
  rename_i hc
  exact ⟨hf, hb, hc⟩
theorem roundEv_ok {l : Nat} {st : LoopState} {p : Option Code} {b : Bool} {H : AH} {r : Ret} {H' : AH} (h : roundEv l st p b H = .mk r H') :
    ∃ q, loopOf H l = some q ∧ r = .ret (.bool b) ∧ H' = H.set l (.obj (.loop { q with state := st, pending := p })) := by
  unfold roundEv at h
  split at h
  · rename_i q hq
    rw [normH_eq] at h
    cases h
    exact ⟨q, hq, rfl, rfl⟩
  · cases h
theorem evRound_ok (hF : FOk X F) {n l : Nat} {args : List Value} {H : AH} {r : Ret} {H' : AH} {R : Ret → AH → Prop} (hR : R r H') (h : evRound P F n l args H = .mk r H') {Spec : Fns} : Rules P Spec X (.round l args) H R := by
  unfold evRound at h
  split at h <;> try cases h
  rename_i q hq
  split at h <;> try cases h
  rename_i hok
  rw [Bool.and_eq_true] at hok
  rw [mkEnvK_eq] at h
  refine ⟨q, hq, hok.1, hok.2, ?_⟩
  have hact := mkEnv_zero ((q.params.zip ⟨args⟩).foldl (fun tmps (t, a) => tmps.setIfInBounds t a) q.tmps).toList
  cases ha : evC P F n (some l) q.assign (mkEnv ((q.params.zip ⟨args⟩).foldl (fun tmps (t, a) => tmps.setIfInBounds t a) q.tmps).toList 0) H with
  | bad w => rw [ha] at h; cases h
  | mk x e1 H1 =>
    rw [ha] at h
    have h1 := fun Q => evC_ok hF n (some l) q.assign x e1 H1 Q _ H (mkEnv_wf _ _) ha
    cases x <;> try (cases h)
    dsimp only at h
    split at h <;> try cases h
    rename_i q' hq'
    split at h <;> try cases h
    rename_i hst
    rw [normH_eq] at h
    rw [hact] at h1
    refine (h1 _).2 ⟨rfl, q', hq', hst, ?_⟩
    cases hb : evC P F n (some l) q.body e1 (H1.set l (.obj (.loop { q' with state := .busy }))) with
    | bad w => rw [hb] at h; cases h
    | mk y e2 H2 =>
      rw [hb] at h
      refine (evC_ok hF n (some l) q.body y e2 H2 _ e1 _ ((h1 (fun _ _ _ => True)).1) hb).2 ?_
      cases y with
      | normal => obtain ⟨q2, g1, rfl, rfl⟩ := roundEv_ok h; exact ⟨q2, g1, hR⟩
      | ret => obtain ⟨q2, g1, rfl, rfl⟩ := roundEv_ok h; exact ⟨q2, g1, hR⟩
      | exit id => obtain ⟨q2, g1, rfl, rfl⟩ := roundEv_ok h; exact ⟨q2, g1, hR⟩
      | goto t => obtain ⟨q2, g1, rfl, rfl⟩ := roundEv_ok h; exact ⟨q2, g1, hR⟩
      | _ => cases h
end Go.Mt
/- What a call has made is looked through: what is reached is numbered anew, the rest is forgotten. -/
namespace Go.Mt
variable {P : Program} {α β : Type}

noncomputable def adL (f : Value → List Nat → List Nat) : List Value → List Nat → List Nat
  | [], acc => acc
  | v :: l, acc => f v (adL f l acc)
/-- the blocks that a value names. -/
noncomputable def adV : Nat → Value → List Nat → List Nat
  | 0, _, acc => acc
  | n + 1, v, acc => match v with
    | .pointer (some ⟨b, _, _⟩) => b :: acc
    | .slice (some ⟨b, _, _⟩) _ _ => b :: acc
    | .map (some r) => r :: acc
    | .func (.yield l) ⟨x⟩ ⟨z⟩ => l :: adL (adV n) x (adL (adV n) z acc)
    | .func _ ⟨x⟩ ⟨z⟩ => adL (adV n) x (adL (adV n) z acc)
    | .iface _ v => adV n v acc
    | .agg ⟨l⟩ => adL (adV n) l acc
    | .tuple ⟨l⟩ => adL (adV n) l acc
    | _ => acc
noncomputable def adE (n : Nat) : List MapEntry → List Nat → List Nat
  | [], acc => acc
  | e :: es, acc => adV n e.key (adV n e.val (adE n es acc))
/-- nothing but numbers, truth values and strings. -/
noncomputable def plainL : List Value → Bool
  | [] => true
  | v :: l => (match v with
    | .int _ _ => true
    | .bool _ => true
    | .string _ => true
    | _ => false) && plainL l
noncomputable def adB (n : Nat) (x : ABlk) (acc : List Nat) : List Nat :=
  match x with
  | .arr c _ _ => Bool.rec (motive := fun _ => List Nat) (adL (adV n) c acc) acc (plainL c)
  | .obj (.map ⟨es⟩ _) => adE n es acc
  | .obj (.mapIter (some m) _ _ _) => m :: acc
  | .obj (.loop l) => l.defers :: adL (adV n) l.tmps.toList acc
  | _ => acc
noncomputable def reachK (H : AH) : Nat → List Nat → T Unit → List Nat → List Nat
  | 0, _, _, acc => acc
  | n + 1, work, seen, acc => match work with
    | [] => acc
    | b :: work => forceN b fun b => match seen.get b with
      | some _ => reachK H n work seen acc
      | none => match H.get b with
        | some x => (seen.set b ()).force fun seen => reachK H n (adB 9 x work) seen (b :: acc)
        | none => reachK H n work seen acc

/-! values and blocks under a renumbering -/
noncomputable def okL (f : Value → Bool) : List Value → Bool
  | [] => true
  | v :: l => f v && okL f l
noncomputable def okV (p : Nat → Bool) : Nat → Value → Bool
  | 0, _ => false
  | n + 1, v => match v with
    | .pointer (some ⟨b, _, _⟩) => p b
    | .slice (some ⟨b, _, _⟩) _ _ => p b
    | .map (some r) => p r
    | .func (.yield l) ⟨x⟩ ⟨z⟩ => p l && (okL (okV p n) x && okL (okV p n) z)
    | .func _ ⟨x⟩ ⟨z⟩ => okL (okV p n) x && okL (okV p n) z
    | .iface _ v => okV p n v
    | .agg ⟨l⟩ => okL (okV p n) l
    | .tuple ⟨l⟩ => okL (okV p n) l
    | _ => true
noncomputable def mvL (f : Value → Value) : List Value → List Value
  | [] => []
  | v :: l => f v :: mvL f l
noncomputable def mvV (t : Nat → Nat) : Nat → Value → Value
  | 0, v => v
  | n + 1, v => match v with
    | .pointer (some ⟨b, o, s⟩) => .pointer (some ⟨t b, o, s⟩)
    | .slice (some ⟨b, o, s⟩) m c => .slice (some ⟨t b, o, s⟩) m c
    | .map (some r) => .map (some (t r))
    | .func (.yield l) ⟨x⟩ ⟨z⟩ => .func (.yield (t l)) ⟨mvL (mvV t n) x⟩ ⟨mvL (mvV t n) z⟩
    | .func f ⟨x⟩ ⟨z⟩ => .func f ⟨mvL (mvV t n) x⟩ ⟨mvL (mvV t n) z⟩
    | .iface ty v => .iface ty (mvV t n v)
    | .agg ⟨l⟩ => .agg ⟨mvL (mvV t n) l⟩
    | .tuple ⟨l⟩ => .tuple ⟨mvL (mvV t n) l⟩
    | v => v
noncomputable def mvLK (f : Value → (Value → β) → β) : List Value → (List Value → β) → β
  | [], k => k []
  | v :: l, k => f v fun v => mvLK f l fun l => k (v :: l)
noncomputable def mvK (t : Nat → Nat) : Nat → Value → (Value → β) → β
  | 0, v, k => k v
  | n + 1, v, k => match v with
    | .pointer (some ⟨b, o, s⟩) => forceN (t b) fun b => forceN o fun o => k (.pointer (some ⟨b, o, s⟩))
    | .slice (some ⟨b, o, s⟩) m c => forceN (t b) fun b => forceN o fun o => forceN m fun m => forceN c fun c => k (.slice (some ⟨b, o, s⟩) m c)
    | .map (some r) => forceN (t r) fun r => k (.map (some r))
    | .func (.yield l) ⟨x⟩ ⟨z⟩ => forceN (t l) fun l => mvLK (mvK t n) x fun x => mvLK (mvK t n) z fun z => k (.func (.yield l) ⟨x⟩ ⟨z⟩)
    | .func f ⟨x⟩ ⟨z⟩ => mvLK (mvK t n) x fun x => mvLK (mvK t n) z fun z => k (.func f ⟨x⟩ ⟨z⟩)
    | .iface ty v => mvK t n v fun v => k (.iface ty v)
    | .agg ⟨l⟩ => mvLK (mvK t n) l fun l => k (.agg ⟨l⟩)
    | .tuple ⟨l⟩ => mvLK (mvK t n) l fun l => k (.tuple ⟨l⟩)
    | .int i n => forceI n fun n => k (.int i n)
    | .bool b => Bool.rec (motive := fun _ => β) (k (.bool false)) (k (.bool true)) b
    | v => k v
theorem mvLK_eq {f : Value → (Value → β) → β} {g : Value → Value} (h : ∀ v k, f v k = k (g v)) : ∀ (l : List Value) (k : List Value → β), mvLK f l k = k (mvL g l)
  | [], _ => rfl
  | v :: l, k => by simp only [mvLK, mvL, h, mvLK_eq h l]
theorem mvK_eq (t : Nat → Nat) : ∀ (n : Nat) (v : Value) (k : Value → β), mvK t n v k = k (mvV t n v)
  | 0, _, _ => rfl
  | n + 1, v, k => by
    have ih := mvK_eq t n
    have ihl := mvLK_eq ih
    cases v with
    | pointer a => cases a with
      | none => rfl
      | some a => obtain ⟨b, o, s⟩ := a; simp only [mvK, mvV, forceN_eq]
    | slice a m c => cases a with
      | none => rfl
      | some a => obtain ⟨b, o, s⟩ := a; simp only [mvK, mvV, forceN_eq]
    | map r => cases r with
      | none => rfl
      | some r => simp only [mvK, mvV, forceN_eq]
    | func f x z =>
      obtain ⟨x⟩ := x; obtain ⟨z⟩ := z
      cases f <;> simp only [mvK, mvV, forceN_eq, ihl]
    | iface ty v => simp only [mvK, mvV, ih]
    | agg l => obtain ⟨l⟩ := l; simp only [mvK, mvV, ihl]
    | tuple l => obtain ⟨l⟩ := l; simp only [mvK, mvV, ihl]
    | int i n => simp only [mvK, mvV, forceI_eq]
    | bool b => cases b <;> rfl
    | _ => rfl
theorem okV_mv {s t : Nat → Nat} : ∀ (n : Nat) (v : Value), okV (fun a => Nat.beq (s (t a)) a) n v = true → mapV s (mvV t n v) = v
  | 0, _, h => by cases h
  | n + 1, v, h => by
    have ih := okV_mv (s := s) (t := t) n
    have ihl : ∀ l : List Value, okL (okV (fun a => Nat.beq (s (t a)) a) n) l = true → mapL s (mvL (mvV t n) l) = l := by
      intro l
      induction l with
      | nil => intro _; rfl
      | cons v l ihl =>
        intro h
        simp only [okL, Bool.and_eq_true] at h
        simp only [mvL, mapL, ih _ h.1, ihl h.2]
    unfold okV at h
    unfold mvV
    split at h
    · simp only [mapV, mapA, Nat.eq_of_beq_eq_true h]
    · simp only [mapV, mapA, Nat.eq_of_beq_eq_true h]
    · simp only [mapV, Nat.eq_of_beq_eq_true h]
    · simp only [Bool.and_eq_true] at h
      simp only [mapV, mapF, Nat.eq_of_beq_eq_true h.1, ihl _ h.2.1, ihl _ h.2.2]
    · rename_i f x z hf
      simp only [Bool.and_eq_true] at h
      cases f <;> simp only [mapV, mapF, ihl _ h.1, ihl _ h.2]
      exact (hf _ rfl).elim
    · simp only [mapV, ih _ h]
    · simp only [mapV, ihl _ h]
    · simp only [mapV, ihl _ h]
    · rename_i h1 h2 h3 h4 h5 h6 h7 h8
      cases v with
      | pointer a => cases a with
        | none => rfl
        | some a => exact (h1 _ _ _ rfl).elim
      | slice a m c => cases a with
        | none => rfl
        | some a => exact (h2 _ _ _ _ _ rfl).elim
      | map r => cases r with
        | none => rfl
        | some r => exact (h3 _ rfl).elim
      | func f x z => exact (h5 f x.toList z.toList rfl).elim
      | iface ty v => exact (h6 _ _ rfl).elim
      | agg l => exact (h7 l.toList rfl).elim
      | tuple l => exact (h8 l.toList rfl).elim
      | _ => rfl
theorem okL_mv {s t : Nat → Nat} {n : Nat} : ∀ l : List Value, okL (okV (fun a => Nat.beq (s (t a)) a) n) l = true → mapL s (mvL (mvV t n) l) = l
  | [], _ => rfl
  | v :: l, h => by
    simp only [okL, Bool.and_eq_true] at h
    simp only [mvL, mapL, okV_mv n v h.1, okL_mv l h.2]
noncomputable def okE (p : Nat → Bool) (n : Nat) : List MapEntry → Bool
  | [] => true
  | e :: es => okV p n e.key && (okV p n e.val && okE p n es)
noncomputable def mvE (t : Nat → Nat) (n : Nat) : List MapEntry → List MapEntry
  | [] => []
  | e :: es => { e with key := mvV t n e.key, val := mvV t n e.val } :: mvE t n es
noncomputable def mvEK (t : Nat → Nat) (n : Nat) : List MapEntry → (List MapEntry → β) → β
  | [], k => k []
  | ⟨ky, v, b⟩ :: es, k => mvK t n ky fun ky => mvK t n v fun v => forceN b fun b => mvEK t n es fun es => k (⟨ky, v, b⟩ :: es)
theorem mvEK_eq (t : Nat → Nat) (n : Nat) : ∀ (es : List MapEntry) (k : List MapEntry → β), mvEK t n es k = k (mvE t n es)
  | [], _ => rfl
  | ⟨ky, v, b⟩ :: es, k => by simp only [mvEK, mvE, mvK_eq, forceN_eq, mvEK_eq t n es]
theorem okE_mv {s t : Nat → Nat} {n : Nat} : ∀ es : List MapEntry, okE (fun a => Nat.beq (s (t a)) a) n es = true → (mvE t n es).map (mapE s) = es
  | [], _ => rfl
  | e :: es, h => by
    simp only [okE, Bool.and_eq_true] at h
    simp only [mvE, List.map_cons, mapE, okV_mv n _ h.1, okV_mv n _ h.2.1, okE_mv es h.2.2]
noncomputable def okB (p : Nat → Bool) (n : Nat) (x : ABlk) : Bool :=
  match x with
  | .arr c _ _ => plainL c || okL (okV p n) c
  | .obj (.map ⟨es⟩ _) => okE p n es
  | .obj (.mapIter none _ _ _) => true
  | .obj (.mapIter (some m) _ _ _) => p m
  | .obj (.stringIter _ _) => true
  | .obj (.loop l) => p l.defers && okL (okV p n) l.tmps.toList
  | .obj (.deferred _) => true
  | .dead => true
  | _ => false
noncomputable def mvB (t : Nat → Nat) (n : Nat) (x : ABlk) : ABlk :=
  match x with
  | .arr c e ro => Bool.rec (motive := fun _ => ABlk) (.arr (mvL (mvV t n) c) e ro) (.arr c e ro) (plainL c)
  | .obj (.map ⟨es⟩ k) => .obj (.map ⟨mvE t n es⟩ k)
  | .obj (.mapIter (some m) a b c) => .obj (.mapIter (some (t m)) a b c)
  | .obj (.loop l) => .obj (.loop { l with tmps := ⟨mvL (mvV t n) l.tmps.toList⟩, defers := t l.defers })
  | x => x
noncomputable def mvBK (t : Nat → Nat) (n : Nat) (x : ABlk) (k : ABlk → β) : β :=
  match x with
  | .arr c e ro => Bool.rec (motive := fun _ => β) (mvLK (mvK t n) c fun c => k (.arr c e ro)) (k (.arr c e ro)) (plainL c)
  | .obj (.map ⟨es⟩ c) => mvEK t n es fun es => forceN c fun c => k (.obj (.map ⟨es⟩ c))
  | .obj (.mapIter (some m) a b c) => forceN (t m) fun m => k (.obj (.mapIter (some m) a b c))
  | .obj (.loop l) => mvLK (mvK t n) l.tmps.toList fun tm => forceN (t l.defers) fun d => k (.obj (.loop { l with tmps := ⟨tm⟩, defers := d }))
  | x => k x
theorem mvBK_eq (t : Nat → Nat) (n : Nat) (x : ABlk) (k : ABlk → β) : mvBK t n x k = k (mvB t n x) := by
  unfold mvBK mvB
  split <;> (try split) <;> simp_all only [mvLK_eq (mvK_eq t n), mvEK_eq, forceN_eq]
  rename_i c e ro
  cases plainL c <;> rfl
theorem plain_map {s : Nat → Nat} : ∀ {l : List Value}, plainL l = true → mapL s l = l
  | [], _ => rfl
  | v :: l, h => by
    simp only [plainL, Bool.and_eq_true] at h
    simp only [mapL, plain_map h.2]
    cases v <;> first | rfl | (simp at h)
theorem okB_mv {s t : Nat → Nat} {n : Nat} {x : ABlk} (h : okB (fun a => Nat.beq (s (t a)) a) n x = true) : mapB s (mvB t n x) = x := by
  unfold okB at h
  split at h
  · rename_i c e ro
    cases hp : plainL c with
    | true => simp only [mvB, hp, mapB, plain_map hp]
    | false => rw [hp, Bool.false_or] at h; simp only [mvB, hp, mapB, okL_mv _ h]
  · simp only [mvB, mapB, mapO, okE_mv _ h]
  · rfl
  · simp only [mvB, mapB, mapO, Nat.eq_of_beq_eq_true h]
  · rfl
  · simp only [Bool.and_eq_true] at h
    simp only [mvB, mapB, mapO, Nat.eq_of_beq_eq_true h.1, okL_mv _ h.2]
  · rfl
  · rfl
  · cases h

/-! heaps out of lists -/
noncomputable def AH.empty (n : Nat) : AH := Quot.mk _ ⟨n, .nil, []⟩
noncomputable def AH.withNext (H : AH) (n : Nat) : AH := Quot.lift (fun e => Quot.mk EH.Eqv ⟨n, e.base, e.log⟩) (fun _a _b h => Quot.sound ⟨rfl, h.2⟩) H
@[simp] theorem AH.empty_next (n : Nat) : (AH.empty n).next = n := rfl
@[simp] theorem AH.withNext_next (H : AH) (n : Nat) : (H.withNext n).next = n := by induction H using Quot.ind; rfl
theorem AH.empty_get (n b : Nat) : (AH.empty n).get b = none := rfl
theorem AH.withNext_get (H : AH) (n b : Nat) : (H.withNext n).get b = H.get b := by induction H using Quot.ind; rfl
noncomputable def putAll (H : AH) : List (Nat × ABlk) → AH
  | [] => H
  | p :: ps => (putAll H ps).set p.1 p.2
@[simp] theorem putAll_next (H : AH) : ∀ ps, (putAll H ps).next = H.next
  | [] => rfl
  | p :: ps => by simp only [putAll, AH.set_next, putAll_next H ps]
theorem putAll_get {H : AH} {b : Nat} {x : ABlk} : ∀ {ps : List (Nat × ABlk)}, (putAll H ps).get b = some x → (b, x) ∈ ps ∨ (b ∉ ps.map (·.1) ∧ H.get b = some x)
  | [], h => .inr ⟨by simp, h⟩
  | p :: ps, h => by
    simp only [putAll, AH.get_set] at h
    split at h
    · cases h; subst_vars; exact .inl (by simp)
    · rename_i hne
      rcases putAll_get h with q | ⟨q1, q2⟩
      · exact .inl (by simp [q])
      · exact .inr ⟨by simp only [List.map_cons, List.mem_cons, not_or]; exact ⟨hne, q1⟩, q2⟩
theorem putAll_mem {H H' : AH} {b : Nat} : ∀ {ps : List (Nat × ABlk)}, b ∈ ps.map (·.1) → (putAll H ps).get b = (putAll H' ps).get b
  | [], h => by simp at h
  | p :: ps, h => by
    simp only [putAll, AH.get_set]
    split
    · rfl
    · rename_i hne
      simp only [List.map_cons, List.mem_cons] at h
      exact putAll_mem (h.resolve_left hne)
noncomputable def mkAH (n : Nat) (ps : List (Nat × ABlk)) : AH := putAll (AH.empty n) ps
noncomputable def joinAH (H : AH) (n : Nat) (ps : List (Nat × ABlk)) : AH := putAll (H.withNext n) ps

structure Res where
  v : Value
  nx : Nat
  ps : List (Nat × ABlk)
noncomputable def psK (d : β) (t s : Nat → Nat) (H : AH) : List Nat → List (Nat × ABlk) → (List (Nat × ABlk) → β) → β
  | [], acc, k => k acc
  | b :: l, acc, k => match H.get b with
    | some x => Bool.rec (motive := fun _ => β) d (mvBK t 9 x fun x => forceN (t b) fun b => psK d t s H l ((b, x) :: acc) k) (Nat.beq (s (t b)) b && okB (fun a => Nat.beq (s (t a)) a) 9 x)
    | none => d
theorem psK_ok {d r : β} (hd : d ≠ r) {t s : Nat → Nat} {H : AH} {k : List (Nat × ABlk) → β} : ∀ (l : List Nat) (acc : List (Nat × ABlk)), psK d t s H l acc k = r →
    ∃ qs, k qs = r ∧ (∀ b ∈ l, t b ∈ qs.map (·.1)) ∧ (∀ p ∈ acc, p ∈ qs) ∧ (∀ p ∈ qs, p ∈ acc ∨ ∃ b ∈ l, p.1 = t b ∧ s (t b) = b ∧ H.get b = some (mapB s p.2))
  | [], acc, h => ⟨acc, h, by simp, fun _ h => h, fun _ h => .inl h⟩
  | b :: l, acc, h => by
    unfold psK at h
    split at h
    · rename_i x hx
      cases hc : Nat.beq (s (t b)) b && okB (fun a => Nat.beq (s (t a)) a) 9 x with
      | false => rw [hc] at h; exact absurd h hd
      | true =>
        rw [hc] at h
        have h : (mvBK t 9 x fun x => forceN (t b) fun b => psK d t s H l ((b, x) :: acc) k) = r := h
        rw [mvBK_eq, forceN_eq] at h
        obtain ⟨qs, h1, h2, h3, h4⟩ := psK_ok hd l _ h
        simp only [Bool.and_eq_true] at hc
        have hb := Nat.eq_of_beq_eq_true hc.1
        have hm := okB_mv hc.2
        refine ⟨qs, h1, fun c hc' => ?_, fun p hp => h3 p (List.mem_cons_of_mem _ hp), fun p hp => ?_⟩
        · rcases List.mem_cons.1 hc' with rfl | hc'
          · exact List.mem_map.2 ⟨_, h3 _ (List.mem_cons_self ..), rfl⟩
          · exact h2 c hc'
        · rcases h4 p hp with q | ⟨c, q1, q2⟩
          · rcases List.mem_cons.1 q with rfl | q
            · exact .inr ⟨b, List.mem_cons_self .., rfl, hb, by rw [hx, hm]⟩
            · exact .inl q
          · exact .inr ⟨c, List.mem_cons_of_mem _ q1, q2⟩
    · exact absurd h hd
/-- numbers from n on. -/
noncomputable def numK (k : T Nat → T Nat → Nat → β) : List Nat → Nat → T Nat → T Nat → β
  | [], n, a, b => k a b n
  | x :: l, n, a, b => (a.set x n).force fun a => (b.set n x).force fun b => forceN (Nat.succ n) fun n => numK k l n a b
noncomputable def newOf (n0 : Nat) : List Nat → List Nat → List Nat
  | [], acc => acc
  | b :: l, acc => Bool.rec (motive := fun _ => List Nat) (newOf n0 l acc) (newOf n0 l (b :: acc)) (Nat.ble n0 b)
noncomputable def toNew (n0 : Nat) (a : T Nat) (b : Nat) : Nat :=
  Bool.rec (motive := fun _ => Nat) (Option.rec (motive := fun _ => Nat) 0 (fun x => x) (a.get b)) b (Nat.blt b n0)
noncomputable def toOld (n0 nx m : Nat) (a : T Nat) (b : Nat) : Nat :=
  Bool.rec (motive := fun _ => Nat) (Bool.rec (motive := fun _ => Nat) (Option.rec (motive := fun _ => Nat) 0 (fun x => x) (a.get b)) (m + b) (Nat.ble nx b)) b (Nat.blt b n0)
noncomputable def gcK (n0 : Nat) (l : List Nat) (v : Value) (H : AH) : Option Res :=
  forceL (newOf n0 (reachK H 100000 (adV 9 v l) .nil []) []) fun ln =>
    numK (fun a b nx => forceN H.next fun m =>
      Bool.rec (motive := fun _ => Option Res) none
        (psK none (toNew n0 a) (toOld n0 nx m b) H (ln ++ l) [] fun qs => mvK (toNew n0 a) 9 v fun v => some ⟨v, nx, qs⟩)
        (Nat.ble n0 nx && (okV (fun x => Nat.beq (toOld n0 nx m b (toNew n0 a x)) x) 9 v))) ln n0 .nil .nil
theorem numK_ok {k : T Nat → T Nat → Nat → β} {r : β} : ∀ (l : List Nat) (n : Nat) (a b : T Nat), numK k l n a b = r → ∃ a b nx, k a b nx = r
  | [], n, a, b, h => ⟨a, b, n, h⟩
  | x :: l, n, a, b, h => by
    unfold numK at h
    rw [T.force_eq, T.force_eq, forceN_eq] at h
    exact numK_ok l _ _ _ h
theorem toOld_lt {n0 nx m b : Nat} {a : T Nat} (h : b < n0) : toOld n0 nx m a b = b := by
  unfold toOld; rw [show Nat.blt b n0 = true by simpa [Nat.blt_eq] using h]
theorem toNew_lt {n0 b : Nat} {a : T Nat} (h : b < n0) : toNew n0 a b = b := by
  unfold toNew; rw [show Nat.blt b n0 = true by simpa [Nat.blt_eq] using h]
theorem toOld_ge {n0 nx m b : Nat} {a : T Nat} (h : n0 ≤ nx) (hb : nx ≤ b) : toOld n0 nx m a b = m + b := by
  unfold toOld
  cases hc : Nat.blt b n0 with
  | true => exact absurd (show b < n0 by simpa [Nat.blt_eq] using hc) (by omega)
  | false => rw [show Nat.ble nx b = true from Nat.ble_eq_true_of_le hb]
theorem gcK_ok {n0 : Nat} {l : List Nat} {v : Value} {H : AH} {r : Res} (hG : P.globals.size ≤ n0) (h : gcK n0 l v H = some r) :
    Renum P n0 (.ret v) H (.ret r.v) (mkAH r.nx r.ps) ∧ ∀ b ∈ l, b < n0 → b ∈ r.ps.map (·.1) := by
  unfold gcK at h
  rw [forceL_eq] at h
  generalize newOf n0 (reachK H 100000 (adV 9 v l) .nil []) [] = ln at h
  obtain ⟨a, b, nx, h⟩ := numK_ok _ _ _ _ h
  rw [forceN_eq] at h
  cases hc : Nat.ble n0 nx && (okV (fun x => Nat.beq (toOld n0 nx H.next b (toNew n0 a x)) x) 9 v) with
  | false => rw [hc] at h; cases h
  | true =>
    rw [hc] at h
    simp only [Bool.and_eq_true] at hc
    have hle := Nat.le_of_ble_eq_true hc.1
    have hv := okV_mv _ _ hc.2
    obtain ⟨qs, h1, h2, h3, h4⟩ := psK_ok (by simp) _ _ (show psK none (toNew n0 a) (toOld n0 nx H.next b) H (ln ++ l) [] (fun qs => mvK (toNew n0 a) 9 v fun v => some ⟨v, nx, qs⟩) = some r from h)
    rw [mvK_eq] at h1
    cases h1
    have key : ∀ c x, (mkAH nx qs).get c = some x → ∃ d, c = toNew n0 a d ∧ toOld n0 nx H.next b c = d ∧ H.get d = some (mapB (toOld n0 nx H.next b) x) := by
      intro c x hx
      rcases putAll_get hx with q | ⟨_, q⟩
      · rcases h4 _ q with q | ⟨d, q1, q2, q3, q4⟩
        · simp at q
        · exact ⟨d, q2, by rw [show c = toNew n0 a d from q2]; exact q3, q4⟩
      · cases (AH.empty_get nx c).symm.trans q
    refine ⟨⟨toOld n0 nx H.next b, hv.symm, fun c hc => toOld_lt hc, fun c hc => ?_, fun c x hx => ?_, fun c c' x x' hx hx' e => ?_, fun g hg => toOld_lt (by omega)⟩, fun c hc hlt => ?_⟩
    · rw [toOld_ge hle (by simpa [mkAH] using hc)]; omega
    · obtain ⟨d, q1, q2, q3⟩ := key c x hx
      rw [q2]; exact q3
    · obtain ⟨d, q1, q2, q3⟩ := key c x hx
      obtain ⟨d', q1', q2', q3'⟩ := key c' x' hx'
      rw [q1, q1', ← q2, ← q2', e]
    · have := h2 c (by simp [hc])
      rwa [toNew_lt hlt] at this

/-! a call on what it reaches, under numbers of its own -/
theorem okV_map {p : Nat → Bool} {t : Nat → Nat} : ∀ (n : Nat) (v : Value), okV p n v = true → mvV t n v = mapV t v
  | 0, _, h => by cases h
  | n + 1, v, h => by
    have ih := okV_map (p := p) (t := t) n
    have ihl : ∀ l : List Value, okL (okV p n) l = true → mvL (mvV t n) l = mapL t l := by
      intro l
      induction l with
      | nil => intro _; rfl
      | cons v l ihl =>
        intro h
        simp only [okL, Bool.and_eq_true] at h
        simp only [mvL, mapL, ih _ h.1, ihl h.2]
    cases v with
    | pointer a => cases a with
      | none => rfl
      | some a => rfl
    | slice a m c => cases a with
      | none => rfl
      | some a => rfl
    | map r => cases r with
      | none => rfl
      | some r => rfl
    | func f x z =>
      obtain ⟨x⟩ := x; obtain ⟨z⟩ := z
      cases f <;> simp only [okV, Bool.and_eq_true] at h <;> simp only [mvV, mapV, mapF]
      case yield l => rw [ihl _ h.2.1, ihl _ h.2.2]
      all_goals rw [ihl _ h.1, ihl _ h.2]
    | iface ty v => simp only [okV] at h; simp only [mvV, mapV, ih _ h]
    | agg l => obtain ⟨l⟩ := l; simp only [okV] at h; simp only [mvV, mapV, ihl _ h]
    | tuple l => obtain ⟨l⟩ := l; simp only [okV] at h; simp only [mvV, mapV, ihl _ h]
    | _ => rfl
theorem okL_map {p : Nat → Bool} {t : Nat → Nat} {n : Nat} : ∀ l : List Value, okL (okV p n) l = true → mvL (mvV t n) l = mapL t l
  | [], _ => rfl
  | v :: l, h => by
    simp only [okL, Bool.and_eq_true] at h
    simp only [mvL, mapL, okV_map n v h.1, okL_map l h.2]
theorem okE_map {p : Nat → Bool} {t : Nat → Nat} {n : Nat} : ∀ es : List MapEntry, okE p n es = true → mvE t n es = es.map (mapE t)
  | [], _ => rfl
  | e :: es, h => by
    simp only [okE, Bool.and_eq_true] at h
    simp only [mvE, List.map_cons, mapE, okV_map n _ h.1, okV_map n _ h.2.1, okE_map es h.2.2]
theorem okB_map {p : Nat → Bool} {t : Nat → Nat} {n : Nat} {x : ABlk} (h : okB p n x = true) : mvB t n x = mapB t x := by
  unfold okB at h
  split at h
  · rename_i c e ro
    cases hp : plainL c with
    | true => simp only [mvB, hp, mapB, plain_map hp]
    | false => rw [hp, Bool.false_or] at h; simp only [mvB, hp, mapB, okL_map _ h]
  · simp only [mvB, mapB, mapO, okE_map _ h]
  · rfl
  · rfl
  · rfl
  · simp only [Bool.and_eq_true] at h
    simp only [mvB, mapB, mapO, okL_map _ h.2]
  · rename_i d
    cases d with
    | none => rfl
    | some l => rfl
  · rfl
  · cases h
noncomputable def keysOf : List (Nat × ABlk) → List Nat
  | [] => []
  | p :: ps => p.1 :: keysOf ps
theorem keysOf_eq (ps : List (Nat × ABlk)) : keysOf ps = ps.map (·.1) := by
  induction ps with
  | nil => rfl
  | cons p ps ih => simp [keysOf, ih]
noncomputable def allLt (n : Nat) : List Nat → Bool
  | [] => true
  | b :: l => Nat.blt b n && allLt n l
theorem allLt_ok {n : Nat} : ∀ {l : List Nat}, allLt n l = true → ∀ b ∈ l, b < n
  | [], _, b, hb => by simp at hb
  | c :: l, h, b, hb => by
    simp only [allLt, Bool.and_eq_true] at h
    rcases List.mem_cons.1 hb with rfl | hb
    · simpa [Nat.blt_eq] using h.1
    · exact allLt_ok h.2 b hb
/-- are all numbers from so many on taken? -/
noncomputable def allTot (G : Nat) (H : AH) : Nat → Bool
  | 0 => true
  | n + 1 => (Nat.blt n G || (match H.get n with
    | some x => x.live
    | none => false)) && allTot G H n
theorem allTot_ok {G : Nat} {H : AH} : ∀ {n : Nat}, allTot G H n = true → ∀ b, b < n → b < G ∨ ∃ x, H.get b = some x ∧ x.live = true
  | 0, _, b, hb => by omega
  | n + 1, h, b, hb => by
    simp only [allTot, Bool.and_eq_true, Bool.or_eq_true] at h
    by_cases e : b = n
    · subst e
      rcases h.1 with h | h
      · exact .inl (by simpa [Nat.blt_eq] using h)
      · right
        split at h
        · rename_i x hx; exact ⟨x, hx, h⟩
        · cases h
    · exact allTot_ok h.2 b (by omega)
noncomputable def tauK (σ : Nat → Nat) (nc n0 c : Nat) : Nat := Bool.rec (motive := fun _ => Nat) (Nat.add (Nat.sub c nc) n0) (σ c) (Nat.blt c nc)
theorem tauK_eq (σ : Nat → Nat) (nc n0 : Nat) : tauK σ nc n0 = tau σ nc n0 := by
  funext c
  unfold tauK tau
  cases h : Nat.blt c nc with
  | true => rw [if_pos (by simpa [Nat.blt_eq] using h)]
  | false => rw [if_neg (by intro h2; rw [show Nat.blt c nc = true by simpa [Nat.blt_eq] using h2] at h; cases h)]; rfl
noncomputable def psB (d : β) (t : Nat → Nat) (H : AH) : List Nat → List (Nat × ABlk) → (List (Nat × ABlk) → β) → β
  | [], acc, k => k acc
  | b :: l, acc, k => match H.get b with
    | some x => Bool.rec (motive := fun _ => β) d (mvBK t 9 x fun x => forceN (t b) fun b => psB d t H l ((b, x) :: acc) k) (okB (fun _ => true) 9 x)
    | none => d
theorem psB_ok {d r : β} (hd : d ≠ r) {t : Nat → Nat} {H : AH} {k : List (Nat × ABlk) → β} : ∀ (l : List Nat) (acc : List (Nat × ABlk)), psB d t H l acc k = r →
    ∃ qs, k qs = r ∧ (∀ b ∈ l, t b ∈ qs.map (·.1)) ∧ (∀ p ∈ acc, p ∈ qs) ∧ (∀ p ∈ qs, p ∈ acc ∨ ∃ c x, p = (t c, mapB t x) ∧ H.get c = some x)
  | [], acc, h => ⟨acc, h, by simp, fun _ h => h, fun _ h => .inl h⟩
  | b :: l, acc, h => by
    unfold psB at h
    split at h
    · rename_i x hx
      cases hc : okB (fun _ => true) 9 x with
      | false => rw [hc] at h; exact absurd h hd
      | true =>
        rw [hc] at h
        have h : (mvBK t 9 x fun x => forceN (t b) fun b => psB d t H l ((b, x) :: acc) k) = r := h
        rw [mvBK_eq, forceN_eq] at h
        obtain ⟨qs, h1, h2, h3, h4⟩ := psB_ok hd l _ h
        refine ⟨qs, h1, fun c hc' => ?_, fun p hp => h3 p (List.mem_cons_of_mem _ hp), fun p hp => ?_⟩
        · rcases List.mem_cons.1 hc' with rfl | hc'
          · exact List.mem_map.2 ⟨_, h3 _ (List.mem_cons_self ..), rfl⟩
          · exact h2 c hc'
        · rcases h4 p hp with q | q
          · rcases List.mem_cons.1 q with rfl | q
            · exact .inr ⟨b, x, by rw [okB_map hc], hx⟩
            · exact .inl q
          · exact .inr q
    · exact absurd h hd
/-- a part of the heap under numbers of its own: how they go back, how many, the arguments, the part. -/
noncomputable def canonK (d : β) (G : Nat) (l : List Nat) (args : List Value) (H : AH) (k : (Nat → Nat) → Nat → List Value → List (Nat × ABlk) → AH → β) : β :=
  forceL (newOf G l []) fun ln => numK (fun a b nc => forceN H.next fun m =>
    Bool.rec (motive := fun _ => β) d (psK d (toNew G a) (toOld G nc m b) H l [] fun ps => mvLK (mvK (toNew G a) 9) args fun args' => normH (mkAH nc ps) fun Hc =>
        Bool.rec (motive := fun _ => β) d (k (toOld G nc m b) nc args' ps Hc) (allTot G Hc nc && allLt nc (keysOf ps)))
      (Nat.ble G nc && okL (okV (fun x => Nat.beq (toOld G nc m b (toNew G a x)) x) 9) args)) ln G .nil .nil
theorem canonK_ok {d r : β} (hd : d ≠ r) {G : Nat} (hG : P.globals.size = G) {l : List Nat} {args : List Value} {H : AH} {k : (Nat → Nat) → Nat → List Value → List (Nat × ABlk) → AH → β} (h : canonK d G l args H k = r) :
    ∃ σ nc args' ps, k σ nc args' ps (mkAH nc ps) = r ∧ args = mapL σ args' ∧ Canon P σ H (mkAH nc ps) ∧ (∀ b ∈ ps.map (·.1), b < nc) ∧ G ≤ nc := by
  unfold canonK at h
  rw [forceL_eq] at h
  generalize newOf G l [] = ln at h
  obtain ⟨a, b, nc, h⟩ := numK_ok _ _ _ _ h
  rw [forceN_eq] at h
  cases hc : Nat.ble G nc && okL (okV (fun x => Nat.beq (toOld G nc H.next b (toNew G a x)) x) 9) args with
  | false => rw [hc] at h; exact absurd h hd
  | true =>
    rw [hc] at h
    simp only [Bool.and_eq_true] at hc
    have hle := Nat.le_of_ble_eq_true hc.1
    have hv := okL_mv _ hc.2
    obtain ⟨ps, h1, h2, h3, h4⟩ := psK_ok hd _ _ (show psK d (toNew G a) (toOld G nc H.next b) H l [] _ = r from h)
    rw [mvLK_eq (mvK_eq (toNew G a) 9), normH_eq] at h1
    cases hc2 : allTot G (mkAH nc ps) nc && allLt nc (keysOf ps) with
    | false => rw [hc2] at h1; exact absurd h1 hd
    | true =>
      rw [hc2] at h1
      simp only [Bool.and_eq_true] at hc2
      have htot := allTot_ok hc2.1
      have hlt := allLt_ok hc2.2
      rw [keysOf_eq] at hlt
      have key : ∀ c x, (mkAH nc ps).get c = some x → ∃ e, c = toNew G a e ∧ toOld G nc H.next b c = e ∧ H.get e = some (mapB (toOld G nc H.next b) x) := by
        intro c x hx
        rcases putAll_get hx with q | ⟨_, q⟩
        · rcases h4 _ q with q | ⟨e, q1, q2, q3, q4⟩
          · simp at q
          · exact ⟨e, q2, by rw [show c = toNew G a e from q2]; exact q3, q4⟩
        · cases (AH.empty_get nc c).symm.trans q
      have inv : ∀ c, c < nc → toNew G a (toOld G nc H.next b c) = c := by
        intro c hlt
        rcases htot c hlt with hg | ⟨x, hx, _⟩
        · rw [toOld_lt hg, toNew_lt hg]
        · obtain ⟨e, e1, e2, _⟩ := key c x hx
          rw [e2, ← e1]
      have hnx : (mkAH nc ps).next = nc := by simp [mkAH]
      refine ⟨_, nc, _, ps, h1, hv.symm, ⟨fun c hc => ?_, fun c x hx => ?_, fun c c' hc hc' e => ?_, fun g hg => ⟨toOld_lt (by omega), by rw [hnx]; omega⟩, fun c hc => ?_, fun c x hx => ?_⟩, hlt, hle⟩
      · rw [hnx] at hc; rw [toOld_ge hle hc]; omega
      · obtain ⟨e, e1, e2, e3⟩ := key c x hx
        rw [e2]; exact e3
      · rw [hnx] at hc hc'
        rw [← inv c hc, ← inv c' hc', e]
      · rw [hnx] at hc; rw [hG]; exact htot c hc
      · rw [hnx]
        rcases putAll_get hx with q | ⟨_, q⟩
        · exact hlt _ (List.mem_map.2 ⟨_, q, rfl⟩)
        · cases (AH.empty_get nc c).symm.trans q
/-- a part's outcome laid back. -/
noncomputable def backK (d : β) (σ : Nat → Nat) (nc : Nat) (H : AH) (r : Res) (k : Value → AH → β) : β :=
  forceN H.next fun n0 => normH (mkAH r.nx r.ps) fun H1 => psB d (tauK σ nc n0) H1 (keysOf r.ps) [] fun qs =>
    Bool.rec (motive := fun _ => β) d (mvK (tauK σ nc n0) 9 r.v fun v => normH (joinAH H (Nat.add n0 (Nat.sub r.nx nc)) qs) fun H' => k v H') (okV (fun _ => true) 9 r.v)
theorem backK_ok {d r' : β} (hd : d ≠ r') {σ : Nat → Nat} {nc : Nat} {ps : List (Nat × ABlk)} {H : AH} {r : Res} {k : Value → AH → β} (hlt : ∀ b ∈ ps.map (·.1), b < nc) (h : backK d σ nc H r k = r') :
    ∃ v H', k v H' = r' ∧ ((∀ b ∈ ps.map (·.1), b ∈ r.ps.map (·.1)) → Back σ H (mkAH nc ps) (.ret r.v) (mkAH r.nx r.ps) (.ret v) H') := by
  unfold backK at h
  rw [forceN_eq, normH_eq, tauK_eq] at h
  obtain ⟨qs, h1, h2, h3, h4⟩ := psB_ok hd _ _ h
  cases hc : okV (fun _ => true) 9 r.v with
  | false => rw [hc] at h1; exact absurd h1 hd
  | true =>
    rw [hc] at h1
    have h1 : (mvK (tau σ nc H.next) 9 r.v fun v => normH (joinAH H (Nat.add H.next (Nat.sub r.nx nc)) qs) fun H' => k v H') = r' := h1
    rw [mvK_eq, normH_eq, okV_map _ _ hc] at h1
    have hnx : ∀ n (ps : List (Nat × ABlk)), (mkAH n ps).next = n := fun n ps => by simp [mkAH]
    refine ⟨_, _, h1, fun hk => ?_⟩
    simp only [Back, hnx, true_and]
    refine ⟨by simp [joinAH], fun b x hx => ?_⟩
    rcases putAll_get hx with q | ⟨q1, q2⟩
    · rcases h4 _ q with q | ⟨c, y, q1, q2⟩
      · simp at q
      · cases q1
        exact .inl ⟨c, y, rfl, q2, rfl⟩
    · right
      rw [AH.withNext_get] at q2
      refine ⟨fun c hc e => ?_, q2⟩
      have hm : c ∈ ps.map (·.1) := by
        cases hx : (mkAH nc ps).get c with
        | none => exact absurd hx hc
        | some y =>
          rcases putAll_get hx with u | ⟨_, u⟩
          · exact List.mem_map.2 ⟨_, u, rfl⟩
          · cases (AH.empty_get nc c).symm.trans u
      have := h2 c (by rw [keysOf_eq]; exact hk c hm)
      rw [show tau σ nc H.next c = σ c by unfold tau; rw [if_pos (hlt c hm)], e] at this
      exact q1 this
/-- a call's outcome on a part of the heap, and on the whole. -/
theorem W_call {Spec : Fns} {f : FuncId} {σ : Nat → Nat} {args args' : List Value} {H H' : AH} {v : Value} {nc : Nat} {ps : List (Nat × ABlk)} {r : Res} {R : Ret → AH → Prop} (ha : args = mapL σ args') (hc : Canon P σ H (mkAH nc ps))
    (hw : W P Spec (.fn f args') (mkAH nc ps) fun r' H' => r' = .ret r.v ∧ H' = mkAH r.nx r.ps ∧ ∀ b ∈ ps.map (·.1), b ∈ r.ps.map (·.1))
    (hb : (∀ b ∈ ps.map (·.1), b ∈ r.ps.map (·.1)) → Back σ H (mkAH nc ps) (.ret r.v) (mkAH r.nx r.ps) (.ret v) H') (hR : R (.ret v) H') : W P Spec (.fn f args) H R := by
  refine W_turn (.inr ⟨σ, args', mkAH nc ps, _, ha, hc, hw, fun r' H1 hr => ?_⟩)
  obtain ⟨rfl, rfl, hk⟩ := hr
  exact ⟨.ret v, H', hb hk, hR⟩
end Go.Mt
/- A region whose order is drawn, gone through in every order that matters. -/
namespace Go.Mt
variable {P : Program} {X : Fns} {F : EvF} {α β : Type} {H H' : AH}

def AH.ext' (H H' : AH) : Prop := ∀ b y, H.get b = some y → H'.get b = some y
def AH.tidy (H : AH) : Prop := ∀ b, H.next ≤ b → H.get b = none
theorem AH.ext'_refl (H : AH) : H.ext' H := fun _ _ h => h
theorem AH.new_ext (h : H.tidy) (y : ABlk) : H.ext' (H.new y) ∧ (H.new y).tidy := by
  refine ⟨fun b z hb => ?_, fun b hb => ?_⟩
  · rw [AH.get_new, if_neg]
    · exact hb
    · rintro rfl
      rw [h _ (Nat.le_refl _)] at hb; cases hb
  · rw [AH.new_next] at hb
    rw [AH.get_new, if_neg (by omega)]
    exact h b (by omega)
/-! operations that look at the heap alone -/
theorem aLoad_ext (h : H.ext' H') {t : TypeId} {a v : Value} (hr : aLoad P H t a = some v) : aLoad P H' t a = some v := by
  unfold aLoad at hr ⊢
  split at hr <;> try cases hr
  split at hr <;> try cases hr
  rename_i c e ro hg
  rw [h _ _ hg]
  exact hr
theorem aCells_ext (h : H.ext' H') {s n : Nat} {x : Value} {cs : List Value} (hr : aCells H s n x = some cs) : aCells H' s n x = some cs := by
  unfold aCells at hr ⊢
  split at hr <;> try cases hr
  · rfl
  · split at hr
    · rename_i hn; cases hr; rw [if_pos hn]
    · rename_i hn
      rw [if_neg hn]
      split at hr <;> try cases hr
      rename_i hle
      rw [if_pos hle]
      split at hr <;> try cases hr
      rename_i c e ro hg
      rw [h _ _ hg]
      exact hr
  · rfl
theorem mapOf_ext (h : H.ext' H') {r : Nat} {q : Array MapEntry × Nat} (hr : mapOf H r = some q) : mapOf H' r = some q := by
  obtain ⟨es, c⟩ := q
  have := h _ _ (mapOf_spec hr)
  unfold mapOf
  rw [this]
theorem unitOf_ext (h : H.ext' H') {b : Nat} {n : Nat} (hr : unitOf P H b = some n) : unitOf P H' b = some n := by
  unfold unitOf at hr ⊢
  split at hr <;> try cases hr
  rename_i c e ro hg
  rw [h _ _ hg]
  exact hr
theorem aSlice_ext (h : H.ext' H') {t : TypeId} {x v : Value} {lo hi mx : Option Value} (hr : aSlice P H t x lo hi mx = some v) : aSlice P H' t x lo hi mx = some v := by
  unfold aSlice at hr ⊢
  split at hr <;> try cases hr
  split at hr <;> try cases hr
  all_goals try exact hr
  rename_i e a len k hu
  split at hr <;> try cases hr
  rename_i d l hh m hd hb
  split at hr
  · rename_i hc; rw [if_pos hc]; exact hr
  · rename_i hc
    rw [if_neg hc]
    split at hr <;> cases hr
    rename_i hc2
    rw [if_pos]
    rcases hc2 with hc2 | hc2
    · exact .inl hc2
    · exact .inr (unitOf_ext h hc2)
theorem aLookup_ext (h : H.ext' H') {t : TypeId} {x k v : Value} {ok : Bool} (hr : aLookup P H t x k ok = some v) : aLookup P H' t x k ok = some v := by
  unfold aLookup at hr ⊢
  split at hr <;> try cases hr
  split at hr <;> try cases hr
  rename_i hc
  rw [if_pos hc]
  split at hr <;> try cases hr
  · exact hr
  · split at hr <;> try cases hr
    rename_i es c hm
    rw [mapOf_ext h hm]
    exact hr
theorem aLenB_ext (h : H.ext' H') {t : TypeId} {x v : Value} (hr : aLenB P H t x = some v) : aLenB P H' t x = some v := by
  unfold aLenB at hr ⊢
  split at hr <;> try cases hr
  all_goals try exact hr
  all_goals try rfl
  rw [Option.map_eq_some_iff] at hr
  obtain ⟨q, hq, rfl⟩ := hr
  rw [mapOf_ext h hq]; rfl
theorem aEntry_ext (h : H.ext' H') {it v : Value} (hr : aEntry H it = some v) : aEntry H' it = some v := by
  unfold aEntry at hr ⊢
  split at hr <;> try cases hr
  split at hr
  · cases hr
  · rename_i ho
    rw [if_neg ho]
    split at hr <;> try cases hr
    rename_i m s seen st hg
    rw [h _ _ hg]
    dsimp only
    split at hr <;> try cases hr
    rename_i stamp es c hb hm
    rw [hb, mapOf_ext h hm]
    exact hr
theorem aBytesToString_ext (h : H.ext' H') {x v : Value} (hr : aBytesToString H x = some v) : aBytesToString H' x = some v := by
  unfold aBytesToString at hr ⊢
  split at hr <;> try cases hr
  · rfl
  · split at hr <;> try cases hr
    rename_i cs hcs
    rw [aCells_ext h hcs]
    exact hr
theorem aConvert_ext (h : H.ext' H') {s d : TypeId} {x v : Value} (hn : ∀ e, P.underlying s = some .string → P.underlying d = some (.slice e) → False) (hr : aConvert P H s d x = some (.val v H)) : aConvert P H' s d x = some (.val v H') := by
  unfold aConvert at hr ⊢
  split at hr
  · rename_i e hu hd
    split at hr <;> try cases hr
    rename_i hu8
    split at hr <;> try cases hr
    rw [Option.map_eq_some_iff] at hr
    obtain ⟨w, hw, e2⟩ := hr
    cases e2
    simp only [aBytesToString_ext h hw, Option.map_some]
  · rename_i h0 h1; exact (hn _ h0 h1).elim
  · rename_i h0 h1; cases hr; simp only []
  · rename_i e0 e a n k h0 h1
    split at hr <;> try cases hr
    rename_i hsd
    split at hr <;> cases hr
    rename_i c e' he hg
    simp only [hsd, he, h _ _ hg, if_true]
  · rename_i k u h0 h1
    split at hr <;> try cases hr
    rename_i hcl
    split at hr <;> cases hr
    rename_i hp
    simp only [hcl, if_true]
  · cases hr
theorem inert_ext (he : H.ext' H') {ea : Operand → Value} {o : Oper} (hi : opInert P o.op = true) {v : Value} (h : aOp P ea o H = .vals [(v, H)]) : aOp P ea o H' = .vals [(v, H')] := by
  obtain ⟨dst, op, type, pos, after, guard⟩ := o
  unfold aOp at h ⊢
  dsimp only at h hi ⊢
  cases op
  case move => cases h; rfl
  case assign => cases h; rfl
  case pick => dsimp only at h ⊢; split at h <;> cases h; rfl
  case makeFunc f first captured => cases f <;> cases h; rfl
  case nilCheck x =>
    dsimp only at h ⊢
    unfold aNilCheck at h ⊢
    split at h
    · split at h <;> cases h
    · split at h <;> cases h
    · split at h <;> cases h
    · cases h
    · cases h; rfl
  case binOp => dsimp only at h ⊢; rw [ofE_inv h]; rfl
  case unOp => dsimp only at h ⊢; rw [ofE_inv h]; rfl
  case convert s d x =>
    dsimp only at h ⊢
    split at h <;> cases h
    rename_i hc
    rw [aConvert_ext he (fun e hs hd => by simp [opInert, hs, hd] at hi) hc]
  case call c =>
    obtain ⟨callee, args, ats⟩ := c
    cases callee with
    | builtin b =>
      cases b
      case len =>
        simp only [aCall, aBuiltin] at h ⊢
        split at h
        all_goals first | (cases h; done) | skip
        all_goals simp_all
        all_goals (rw [aLenB_ext he (ofV_inv h)]; rfl)
      all_goals (exact absurd hi Bool.false_ne_true)
    | _ => exact absurd hi Bool.false_ne_true
  case build => dsimp only at h ⊢; rw [ofV_inv h]; rfl
  case load => dsimp only at h ⊢; rw [aLoad_ext he (ofV_inv h)]; rfl
  case makeInterface => dsimp only at h ⊢; rw [ofV_inv h]; rfl
  case slice => dsimp only at h ⊢; rw [aSlice_ext he (ofV_inv h)]; rfl
  case fieldAddr => dsimp only at h ⊢; rw [ofV_inv h]; rfl
  case field => dsimp only at h ⊢; rw [ofV_inv h]; rfl
  case indexAddr => dsimp only at h ⊢; rw [ofV_inv h]; rfl
  case index => dsimp only at h ⊢; rw [ofV_inv h]; rfl
  case lookup => dsimp only at h ⊢; rw [aLookup_ext he (ofV_inv h)]; rfl
  case typeAssert => dsimp only at h ⊢; rw [ofV_inv h]; rfl
  case extract => dsimp only at h ⊢; rw [ofV_inv h]; rfl
  case entry => dsimp only at h ⊢; rw [aEntry_ext he (ofV_inv h)]; rfl
  all_goals (exact absurd hi Bool.false_ne_true)
/-- it makes a block, and does nothing else. -/
def opMakes (P : Program) : Op → Bool
  | .alloc _ | .box .. | .buildSlice .. => true
  | .convert s d _ => match P.underlying s, P.underlying d with
    | some .string, some (.slice _) => true
    | _, _ => false
  | _ => false
theorem ofOV_inv {r : OV} {l : List (Value × AH)} (h : ofOV r = .vals l) : ∃ x, r = some x ∧ l = [x] := by
  cases r with
  | none => cases h
  | some x => exact ⟨x, rfl, by cases h; rfl⟩
theorem makes_new {ea : Operand → Value} {o : Oper} (hi : opMakes P o.op = true) {r : ARes} (h : aOp P ea o H = r) : r = .stuck ∨ ∃ v y, r = .vals [(v, H.new y)] := by
  subst h
  obtain ⟨dst, op, type, pos, after, guard⟩ := o
  unfold aOp
  dsimp only at hi ⊢
  cases op
  case alloc e =>
    dsimp only
    unfold aAlloc
    split
    · split
      · split
        · exact .inr ⟨_, _, rfl⟩
        · exact .inl rfl
      · exact .inl rfl
    · exact .inl rfl
  case box e x =>
    dsimp only
    unfold aBox
    split
    · exact .inr ⟨_, _, rfl⟩
    · exact .inl rfl
  case buildSlice t len parts =>
    dsimp only
    unfold aBuildSlice
    split
    · split
      · split
        · split
          · exact .inr ⟨_, _, rfl⟩
          · exact .inl rfl
        · exact .inl rfl
      · exact .inl rfl
    · exact .inl rfl
  case convert s d x =>
    dsimp only
    split
    · rename_i v H1 hc
      unfold aConvert at hc
      split at hc
      · rename_i h0 h1; simp [opMakes, h0, h1] at hi
      · split at hc <;> try cases hc
        rw [Option.map_eq_some_iff] at hc
        obtain ⟨r, hr, h2⟩ := hc
        cases h2
        unfold aStringToBytes at hr
        split at hr <;> try cases hr
        split at hr <;> cases hr
        exact .inr ⟨_, _, rfl⟩
      · rename_i h0 h1; simp [opMakes, h0] at hi
      · rename_i h00 h0 h1; simp [opMakes, h00, h0] at hi
      · rename_i h0 h1; simp [opMakes, h0] at hi
      · cases hc
    · exact .inl rfl
  all_goals (exact absurd hi Bool.false_ne_true)

theorem ofV_res {q : Option Value} {r : ARes} (h : ofV H q = r) : r = .stuck ∨ (∃ v, r = .pan v H) ∨ ∃ v, r = .vals [(v, H)] := by
  subst h
  cases q with
  | none => exact .inl rfl
  | some v => exact .inr (.inr ⟨_, rfl⟩)
theorem ofE_res {q : Option (Except Value Value)} {r : ARes} (h : ofE H q = r) : r = .stuck ∨ (∃ v, r = .pan v H) ∨ ∃ v, r = .vals [(v, H)] := by
  subst h
  cases q with
  | none => exact .inl rfl
  | some q => cases q with
    | ok v => exact .inr (.inr ⟨_, rfl⟩)
    | error v => exact .inr (.inl ⟨_, rfl⟩)
theorem inert_res {ea : Operand → Value} {o : Oper} (hi : opInert P o.op = true) {r : ARes} (h : aOp P ea o H = r) : r = .stuck ∨ (∃ v, r = .pan v H) ∨ ∃ v, r = .vals [(v, H)] := by
  obtain ⟨dst, op, type, pos, after, guard⟩ := o
  unfold aOp at h
  dsimp only at h hi
  cases op
  case pick => dsimp only at h; split at h <;> subst h <;> first | exact .inl rfl | exact .inr (.inr ⟨_, rfl⟩)
  case makeFunc f first captured => cases f <;> subst h <;> first | exact .inl rfl | exact .inr (.inr ⟨_, rfl⟩)
  case nilCheck x =>
    dsimp only at h
    unfold aNilCheck at h
    repeat' split at h
    all_goals subst h
    all_goals first | exact .inl rfl | exact .inr (.inr ⟨_, rfl⟩) | exact .inr (.inl ⟨_, rfl⟩)
  case convert s d x =>
    have hv : ∀ l, r = .vals l → ∃ v, l = [(v, H)] := fun l e => inert_vals (o := ⟨dst, .convert s d x, type, pos, after, guard⟩) (ea := ea) hi (by unfold aOp; exact h.trans e)
    dsimp only at h
    split at h
    · obtain ⟨v, e⟩ := hv _ h.symm
      subst h
      rw [e]; exact .inr (.inr ⟨_, rfl⟩)
    · subst h; exact .inl rfl
  case call c =>
    obtain ⟨callee, args, ats⟩ := c
    cases callee with
    | builtin b =>
      cases b
      case len =>
        simp only [aCall, aBuiltin] at h
        split at h
        all_goals first | exact ofV_res h | (subst h; exact .inl rfl) | simp_all
      all_goals (exact absurd hi Bool.false_ne_true)
    | _ => exact absurd hi Bool.false_ne_true
  case move => subst h; exact .inr (.inr ⟨_, rfl⟩)
  case assign => subst h; exact .inr (.inr ⟨_, rfl⟩)
  case binOp => exact ofE_res h
  case unOp => exact ofE_res h
  case build => exact ofV_res h
  case load => exact ofV_res h
  case makeInterface => exact ofV_res h
  case slice => exact ofV_res h
  case fieldAddr => exact ofV_res h
  case field => exact ofV_res h
  case indexAddr => exact ofV_res h
  case index => exact ofV_res h
  case lookup => exact ofV_res h
  case typeAssert => exact ofV_res h
  case extract => exact ofV_res h
  case entry => exact ofV_res h
  all_goals (exact absurd hi Bool.false_ne_true)

/-! is nothing kept from so many on? -/
noncomputable def T.under : T α → Nat → Bool
  | .nil, _ => true
  | .node v l r, n => (match v with
    | none => true
    | some _ => Nat.blt 0 n) && (l.under (n / 2) && r.under ((n - 1) / 2))
theorem T.under_iff : ∀ (t : T α) (n : Nat), t.under n = true ↔ ∀ b, n ≤ b → t.get b = none
  | .nil, n => by simp [T.under, T.get_nil]
  | .node v l r, n => by
    have hl := T.under_iff l (n / 2)
    have hr := T.under_iff r ((n - 1) / 2)
    simp only [T.under, Bool.and_eq_true, hl, hr]
    constructor
    · rintro ⟨h1, h2, h3⟩ b hb
      cases b with
      | zero =>
        rw [T.get_zero]
        cases v with
        | none => rfl
        | some x => simp only [Nat.blt_eq] at h1; omega
      | succ m =>
        rw [T.get_succ]
        split
        · exact h2 _ (by omega)
        · exact h3 _ (by omega)
    · intro h
      refine ⟨?_, fun b hb => ?_, fun b hb => ?_⟩
      · cases v with
        | none => rfl
        | some x =>
          cases n with
          | zero => have := h 0 (Nat.le_refl _); rw [T.get_zero] at this; cases this
          | succ n => simp [Nat.blt_eq]
      · have := h (2 * b + 1) (by omega)
        rw [T.get_succ, if_pos (by omega)] at this
        rwa [show 2 * b / 2 = b by omega] at this
      · have := h (2 * b + 1 + 1) (by omega)
        rw [T.get_succ, if_neg (by omega)] at this
        rwa [show (2 * b + 1) / 2 = b by omega] at this
noncomputable def logBelow (n : Nat) : List (Nat × ABlk) → Bool
  | [] => true
  | p :: l => Nat.blt p.1 n && logBelow n l
noncomputable def EH.tidyB (e : EH) : Bool := e.base.under e.next && logBelow e.next e.log
theorem EH.tidyB_iff (e : EH) : e.tidyB = true ↔ ∀ b, e.next ≤ b → e.get b = none := by
  obtain ⟨n, t, l⟩ := e
  show (t.under n && logBelow n l) = true ↔ ∀ b, n ≤ b → EH.get ⟨n, t, l⟩ b = none
  rw [Bool.and_eq_true, T.under_iff]
  induction l with
  | nil => exact ⟨fun h b hb => h.1 b hb, fun h => ⟨fun b hb => h b hb, rfl⟩⟩
  | cons p l ih =>
    simp only [logBelow, Bool.and_eq_true, Nat.blt_eq]
    constructor
    · rintro ⟨h1, h2, h3⟩ b hb
      rw [EH.get_cons, if_neg (by omega)]
      exact ih.1 ⟨h1, h3⟩ b hb
    · intro h
      have hp : p.1 < n := by
        apply Nat.lt_of_not_le
        intro hle
        have := h _ hle
        rw [EH.get_cons, if_pos rfl] at this; cases this
      have := ih.2 fun b hb => by
        have := h b hb
        rwa [EH.get_cons, if_neg (by omega)] at this
      exact ⟨this.1, hp, this.2⟩
noncomputable def AH.tidyB (H : AH) : Bool := Quot.lift EH.tidyB (fun a b h => by
  rw [Bool.eq_iff_iff, EH.tidyB_iff, EH.tidyB_iff, h.1]
  exact ⟨fun q i hi => by rw [← h.2]; exact q i hi, fun q i hi => by rw [h.2]; exact q i hi⟩) H
theorem AH.tidyB_ok {H : AH} (h : H.tidyB = true) : H.tidy := by
  induction H using Quot.ind
  exact (EH.tidyB_iff _).1 h

/-! what may be done first -/
noncomputable def tmpClash (ops : Array Oper) (a b : Oper) : Bool :=
  (match a.dst with
    | some t => memN t (touches ops b)
    | none => false) || (match b.dst with
    | some t => memN t (touches ops a)
    | none => false)
noncomputable def freeOp (P : Program) (ops : Array Oper) (listed : Array Bool) (i : Nat) : Bool :=
  match ops[i]? with
  | some o => opInert P o.op && (List.range ops.size).all fun j => Nat.beq j i || (listed.getD j false || (dep ops ops.size i j || (match ops[j]? with
      | some b => !tmpClash ops o b && (opPure o.op || (opInert P b.op || opMakes P b.op))
      | none => true)))
  | none => false
theorem Act.put_comm {a : Act} {d d' : Option Tmp} {v w : Value} (h : ∀ t, d = some t → d' = some t → False) : (a.put d v).put d' w = (a.put d' w).put d v := by
  cases d with
  | none => rfl
  | some d => cases d' with
    | none => rfl
    | some d' =>
      have hne : d ≠ d' := fun e => h d rfl (by rw [e])
      simp only [Act.put]
      congr 1
      exact Array.setIfInBounds_comm _ _ hne
theorem Act.put_eval {a : Act} {d : Option Tmp} {v : Value} {x : Operand} (h : ∀ t, x = .tmp t → d ≠ some t) : (a.put d v).eval x = a.eval x := by
  cases x with
  | tmp t =>
    cases d with
    | none => rfl
    | some d =>
      have hne : d ≠ t := fun e => h t rfl (by rw [e])
      simp only [Act.put, Act.eval, Array.getD_eq_getD_getElem?, Array.getElem?_setIfInBounds]
      rw [if_neg hne]
  | _ => cases d <;> rfl
theorem yielded_put {ops : Array Oper} {a : Act} {d : Option Tmp} {v : Value} {g : Nat} (h : ∀ t, (ops[g]?).bind (·.dst) = some t → d ≠ some t) : yielded ops (a.put d v).tmps g = yielded ops a.tmps g := by
  unfold yielded
  cases hg : (ops[g]?).bind (·.dst) with
  | none => rfl
  | some t =>
    cases d with
    | none => rfl
    | some d =>
      have hne : d ≠ t := fun e => h t hg (by rw [e])
      simp only [Act.put, Option.bind_some, Array.getElem?_setIfInBounds]
      rw [if_neg hne]
theorem wanted_put {ops : Array Oper} {a : Act} {d : Option Tmp} {v : Value} {o : Oper} (h : ∀ t, t ∈ touches ops o → d ≠ some t) : Region.wanted o (yielded ops (a.put d v).tmps) = Region.wanted o (yielded ops a.tmps) := by
  unfold Region.wanted
  split
  · rfl
  · rename_i g want hg
    rw [yielded_put]
    intro t ht
    exact h t (by simp [touches, guardTmp, hg, ht])
theorem op_put {ops : Array Oper} {a : Act} {d : Option Tmp} {v : Value} {o : Oper} (h : ∀ t, t ∈ touches ops o → d ≠ some t) : aOp P (a.put d v).eval o H = aOp P a.eval o H := by
  refine aOp_congr fun z hz => Act.put_eval fun t ht => h t ?_
  subst ht
  simp only [touches, List.append_assoc, List.mem_append, List.mem_filterMap]
  exact .inl ⟨.tmp t, by simpa using hz, rfl⟩
theorem tmpClash_no {ops : Array Oper} {a b : Oper} (h : tmpClash ops a b = false) : (∀ t, t ∈ touches ops b → a.dst ≠ some t) ∧ (∀ t, t ∈ touches ops a → b.dst ≠ some t) := by
  unfold tmpClash at h
  rw [Bool.or_eq_false_iff] at h
  refine ⟨fun t ht e => ?_, fun t ht e => ?_⟩
  · have := h.1; rw [e] at this; simp [memN_of ht] at this
  · have := h.2; rw [e] at this; simp [memN_of ht] at this
/-- what an operation that may be done first comes to. -/
def ValAt (P : Program) (ops : Array Oper) (o : Oper) (a : Act) (H : AH) (v : Value) : Prop :=
  (Region.wanted o (yielded ops a.tmps) = false ∧ v = undef) ∨ (Region.wanted o (yielded ops a.tmps) = true ∧ aOp P a.eval o H = .vals [(v, H)])
theorem ready_intro {ops : Array Oper} {listed : Array Bool} (_hl : listed.size = ops.size) {i j : Nat} (hj : j ∈ Region.ready .any ops listed) (hne : j ≠ i) : j ∈ Region.ready .any ops (listed.setIfInBounds i true) := by
  unfold Region.ready at hj ⊢
  rw [List.mem_filter, Bool.and_eq_true] at hj ⊢
  obtain ⟨h1, h2, h3⟩ := hj
  refine ⟨h1, ?_, ?_⟩
  · simp only [Array.getD_eq_getD_getElem?, Array.getElem?_setIfInBounds, if_neg (Ne.symm hne)] at h2 ⊢
    exact h2
  · have hlt : j < ops.size := by simpa using h1
    rw [Array.getElem?_eq_getElem hlt] at h3 ⊢
    simp only [Option.map_some, Option.getD_some] at h3 ⊢
    rw [← Array.all_toList, List.all_eq_true] at h3 ⊢
    intro e he
    have := h3 e he
    rw [Bool.or_eq_true] at this ⊢
    rcases this with h | h
    · exact .inl h
    · right
      simp only [Array.getD_eq_getD_getElem?, Array.getElem?_setIfInBounds] at h ⊢
      split
      · split
        · rfl
        · rename_i hei hlt; subst hei; simp [hlt] at h
      · exact h
def Qn (Q : Post) : Post := fun x a H => x = .normal ∧ Q .normal a H
theorem any_first {ro : Option Nat} {Q : Post} {ops : Array Oper} (hm : X.Mono) {i : Nat} {o : Oper} (ho : ops[i]? = some o) (hio : opInert P o.op = true) {v : Value} : ∀ (n : Nat) (listed : Array Bool) (a : Act) (H : AH), listed.size = ops.size → ShutS ops (fun k => listed.getD k false) → i ∈ Region.ready .any ops listed → freeOp P ops listed i = true →
    ValAt P ops o a H v → (opPure o.op = true ∨ H.tidy) → anyA P X ro ops (Qn Q) n (listed.setIfInBounds i true) (a.put o.dst v) H → anyA P X ro ops (Qn Q) (n + 1) listed a H := by
  intro n
  induction n with
  | zero =>
    intro listed a H hl hs hi hf hv ht h
    refine ⟨fun hr => (by rw [hr] at hi; cases hi), fun j hj => ?_⟩
    by_cases hji : j = i
    · subst hji
      unfold opA
      rw [ho]
      dsimp only
      rcases hv with ⟨h1, rfl⟩ | ⟨h1, h2⟩
      · rw [h1, if_neg Bool.false_ne_true]; exact h
      · rw [h1, if_pos rfl, h2]
        intro r hr
        cases List.mem_singleton.1 hr
        exact h
    · have := ready_intro hl hj hji
      rw [h.1] at this; cases this
  | succ m ih =>
    intro listed a H hl hs hi hf hv ht h
    refine ⟨fun hr => (by rw [hr] at hi; cases hi), fun j hj => ?_⟩
    by_cases hji : j = i
    · subst hji
      unfold opA
      rw [ho]
      dsimp only
      rcases hv with ⟨h1, rfl⟩ | ⟨h1, h2⟩
      · rw [h1, if_neg Bool.false_ne_true]; exact h
      · rw [h1, if_pos rfl, h2]
        intro r hr
        cases List.mem_singleton.1 hr
        exact h
    · have hj2 := ready_intro hl hj hji
      have hstep := h.2 j hj2
      obtain ⟨b, hb, hjl, hjn⟩ := ready_spec hj
      obtain ⟨o', ho', hil, _⟩ := ready_spec hi
      rw [ho] at ho'; cases ho'
      have hjlt : j < ops.size := (Array.getElem?_eq_some_iff.1 hb).1
      have hilt : i < ops.size := (Array.getElem?_eq_some_iff.1 ho).1
      have hgd : ∀ k, k < ops.size → listed.getD k true = listed.getD k false := fun k hk => by simp [Array.getD, hl, hk]
      rw [hgd j hjlt] at hjl
      rw [hgd i hilt] at hil
      -- they stand apart
      have hcl : tmpClash ops o b = false ∧ (opPure o.op = true ∨ (opInert P b.op = true ∨ opMakes P b.op = true)) := by
        unfold freeOp at hf
        rw [ho] at hf
        simp only [Bool.and_eq_true, List.all_eq_true] at hf
        have := hf.2 j (by simpa using hjlt)
        rw [hb] at this
        have hbq : Nat.beq j i = false := by
          cases hq : Nat.beq j i with
          | false => rfl
          | true => exact absurd (Nat.eq_of_beq_eq_true hq) hji
        have hdp : dep ops ops.size i j = false := by
          cases hq : dep ops ops.size i j with
          | false => rfl
          | true =>
            have := dep_in hs _ _ _ hq hjn
            rw [hil] at this; cases this
        rw [hbq, hjl, hdp] at this
        simpa using this
      obtain ⟨c1, c2⟩ := tmpClash_no hcl.1
      have hcomm : ∀ w, (a.put o.dst v).put b.dst w = (a.put b.dst w).put o.dst v := fun w => Act.put_comm fun t e1 e2 => c2 t (by simp [touches, e1]) e2
      -- after it
      have hl' : (listed.setIfInBounds j true).size = ops.size := by simpa using hl
      have hS2 : ∀ k, (listed.setIfInBounds j true).getD k false = if k = j then true else listed.getD k false := by
        intro k
        simp only [Array.getD_eq_getD_getElem?, Array.getElem?_setIfInBounds]
        by_cases hk : j = k
        · subst hk; simp [hl, hjlt]
        · rw [if_neg hk, if_neg (fun h => hk h.symm)]
      have hs' : ShutS ops (fun k => (listed.setIfInBounds j true).getD k false) := by
        intro k hk q hq
        dsimp only at hk ⊢
        rw [hS2] at hk ⊢
        by_cases hqj : q = j
        · rw [if_pos hqj]
        · rw [if_neg hqj]
          by_cases hkj : k = j
          · subst hkj; exact hjn q hq
          · rw [if_neg hkj] at hk; exact hs k hk q hq
      have hi' := ready_intro hl hi (Ne.symm hji)
      have hf' : freeOp P ops (listed.setIfInBounds j true) i = true := by
        unfold freeOp at hf ⊢
        rw [ho] at hf ⊢
        simp only [Bool.and_eq_true, List.all_eq_true] at hf ⊢
        refine ⟨hf.1, fun k hk => ?_⟩
        have := hf.2 k hk
        rw [hS2]
        by_cases hkj : k = j
        · rw [if_pos hkj]; simp
        · rw [if_neg hkj]; exact this
      have hcomm2 : (listed.setIfInBounds i true).setIfInBounds j true = (listed.setIfInBounds j true).setIfInBounds i true := Array.setIfInBounds_comm _ _ (Ne.symm hji)
      have go : ∀ w H2, ValAt P ops o (a.put b.dst w) H2 v → (opPure o.op = true ∨ H2.tidy) → anyA P X ro ops (Qn Q) m ((listed.setIfInBounds i true).setIfInBounds j true) ((a.put o.dst v).put b.dst w) H2 → anyA P X ro ops (Qn Q) (m + 1) (listed.setIfInBounds j true) (a.put b.dst w) H2 := by
        intro w H2 hv2 ht2 h2
        rw [hcomm2, hcomm] at h2
        exact ih _ _ _ hl' hs' hi' hf' hv2 ht2 h2
      have hval : ∀ w H2, (opPure o.op = true ∨ H.ext' H2) → ValAt P ops o (a.put b.dst w) H2 v := by
        intro w H2 hx
        unfold ValAt
        rw [wanted_put c2, op_put c2]
        rcases hv with ⟨h1, h2⟩ | ⟨h1, h2⟩
        · exact .inl ⟨h1, h2⟩
        · refine .inr ⟨h1, ?_⟩
          rcases hx with hx | hx
          · exact pure_any hx h2
          · exact inert_ext hx hio h2
      have hpd : ∀ {w H2}, opPure o.op = true → anyA P X ro ops (Qn Q) m ((listed.setIfInBounds i true).setIfInBounds j true) ((a.put o.dst v).put b.dst w) H2 → anyA P X ro ops (Qn Q) (m + 1) (listed.setIfInBounds j true) (a.put b.dst w) H2 :=
        fun hp h2 => go _ _ (hval _ _ (.inl hp)) (.inl hp) h2
      unfold opA at hstep ⊢
      rw [hb] at hstep ⊢
      dsimp only at hstep ⊢
      rw [wanted_put c1] at hstep
      cases hw : Region.wanted b (yielded ops a.tmps) with
      | false =>
        rw [hw, if_neg Bool.false_ne_true] at hstep
        rw [if_neg Bool.false_ne_true]
        exact go _ _ (hval _ _ (.inr (AH.ext'_refl H))) ht hstep
      | true =>
        rw [hw, if_pos rfl, op_put c1] at hstep
        rw [if_pos rfl]
        by_cases hp : opPure o.op = true
        · cases hr : aOp P a.eval b H with
          | vals l => rw [hr] at hstep; exact fun r hrl => hpd hp (hstep r hrl)
          | skip H2 => rw [hr] at hstep; exact hpd hp hstep
          | enter f args H2 =>
            rw [hr] at hstep
            refine hm _ _ _ _ (fun q H3 hq => ?_) hstep
            cases q with
            | ret w => exact hpd hp hq
            | pan c => cases hq.1
          | round l args H2 =>
            rw [hr] at hstep
            refine hm _ _ _ _ (fun q H3 hq => ?_) hstep
            cases q with
            | ret w => exact hpd hp hq
            | pan c => cases hq.1
          | pan w H2 => rw [hr] at hstep; cases hstep.1
          | dfr d H2 =>
            rw [hr] at hstep
            refine ⟨hstep.1, ?_⟩
            have h2 := hstep.2
            have key : ∀ a' : Act, anyA P X ro ops (Qn Q) m ((listed.setIfInBounds i true).setIfInBounds j true) (({ a' with defers := d :: a'.defers }.put o.dst v).put b.dst undef) H2 → ValAt P ops o ({ a' with defers := d :: a'.defers }.put b.dst undef) H2 v → anyA P X ro ops (Qn Q) (m + 1) (listed.setIfInBounds j true) ({ a' with defers := d :: a'.defers }.put b.dst undef) H2 := by
              intro a' q1 q2
              rw [hcomm2, Act.put_comm (fun t e1 e2 => c2 t (by simp [touches, e1]) e2)] at q1
              exact ih _ _ _ hl' hs' hi' hf' q2 (.inl hp) q1
            have e1 : { (a.put o.dst v) with defers := d :: (a.put o.dst v).defers } = ({ a with defers := d :: a.defers } : Act).put o.dst v := by
              cases o.dst <;> rfl
            rw [e1] at h2
            refine key a h2 ?_
            have e2 : ({ a with defers := d :: a.defers } : Act).eval = a.eval := by
              funext x; cases x <;> rfl
            have := hval undef H2 (.inl hp)
            unfold ValAt at this ⊢
            rw [wanted_put c2, op_put c2] at this ⊢
            rw [e2]
            exact this
          | stuck => rw [hr] at hstep; exact hstep.elim
        · have htd := ht.resolve_left hp
          rcases hcl.2.resolve_left hp with hbi | hbm
          · rcases inert_res hbi (rfl : aOp P a.eval b H = _) with hr | ⟨w, hr⟩ | ⟨w, hr⟩
            · rw [hr] at hstep; exact hstep.elim
            · rw [hr] at hstep; cases hstep.1
            · rw [hr] at hstep ⊢
              intro r hrl
              have := hstep r hrl
              cases List.mem_singleton.1 hrl
              exact go _ _ (hval _ _ (.inr (AH.ext'_refl H))) ht this
          · rcases makes_new hbm (rfl : aOp P a.eval b H = _) with hr | ⟨w, y, hr⟩
            · rw [hr] at hstep; exact hstep.elim
            · rw [hr] at hstep ⊢
              intro r hrl
              have := hstep r hrl
              cases List.mem_singleton.1 hrl
              obtain ⟨x1, x2⟩ := AH.new_ext htd y
              exact go _ _ (hval _ _ (.inr x1)) (.inr x2) this
end Go.Mt
/- A computation that goes every way that code may go; all of them must come to one outcome. -/
namespace Go.Mt
variable {P : Program} {X : Fns} {F : EvF} {α β : Type}
noncomputable def eqE : List MapEntry → List MapEntry → Bool
  | [], [] => true
  | ⟨k, v, b⟩ :: es, ⟨k', v', b'⟩ :: es' => Nat.beq b b' && (eqV 20 k k' && (eqV 20 v v' && eqE es es'))
  | _, _ => false
theorem eqE_eq : ∀ {a b : List MapEntry}, eqE a b = true → a = b
  | [], [], _ => rfl
  | ⟨k, v, b⟩ :: es, ⟨k', v', b'⟩ :: es', h => by
    simp only [eqE, Bool.and_eq_true] at h
    rw [Nat.eq_of_beq_eq_true h.1, eqV_eq _ _ _ h.2.1, eqV_eq _ _ _ h.2.2.1, eqE_eq h.2.2.2]
  | [], _ :: _, h => by cases h
  | _ :: _, [], h => by cases h
noncomputable def eqBk (x y : ABlk) : Bool :=
  match x, y with
  | .arr c e r, .arr c' e' r' => Nat.beq e e' && (r == r' && eqL (eqV 20) c c')
  | .obj (.map ⟨es⟩ k), .obj (.map ⟨es'⟩ k') => Nat.beq k k' && eqE es es'
  | .dead, .dead => true
  | _, _ => false
theorem eqBk_eq {x y : ABlk} (h : eqBk x y = true) : x = y := by
  unfold eqBk at h
  split at h
  · simp only [Bool.and_eq_true] at h
    rw [Nat.eq_of_beq_eq_true h.1, eq_of_beq h.2.1, eqL_eq (eqV_eq 20) _ _ h.2.2]
  · simp only [Bool.and_eq_true] at h
    rw [Nat.eq_of_beq_eq_true h.1, eqE_eq h.2]
  · rfl
  · cases h
noncomputable def eqPs : List (Nat × ABlk) → List (Nat × ABlk) → Bool
  | [], [] => true
  | p :: ps, q :: qs => Nat.beq p.1 q.1 && (eqBk p.2 q.2 && eqPs ps qs)
  | _, _ => false
theorem eqPs_eq : ∀ {a b : List (Nat × ABlk)}, eqPs a b = true → a = b
  | [], [], _ => rfl
  | p :: ps, q :: qs, h => by
    simp only [eqPs, Bool.and_eq_true] at h
    rw [eqPs_eq h.2.2, show p = q from Prod.ext (Nat.eq_of_beq_eq_true h.1) (eqBk_eq h.2.1)]
  | [], _ :: _, h => by cases h
  | _ :: _, [], h => by cases h
noncomputable def eqRes (a b : Res) : Bool := Nat.beq a.nx b.nx && (eqV 20 a.v b.v && eqPs a.ps b.ps)
theorem eqRes_eq {a b : Res} (h : eqRes a b = true) : a = b := by
  simp only [eqRes, Bool.and_eq_true] at h
  obtain ⟨v, n, p⟩ := a
  obtain ⟨v', n', p'⟩ := b
  simp only at h
  rw [Nat.eq_of_beq_eq_true h.1, eqV_eq _ _ _ h.2.1, eqPs_eq h.2.2]

abbrev Ans := Option Res
abbrev KFn := Cal → AH → (Ret → AH → Ans) → Ans
def KFOk (X : Fns) (G : KFn) : Prop := ∀ c H K r, G c H K = some r → X c H fun a H' => K a H' = some r
noncomputable def kVals (k : α → Ans) : List α → Ans
  | [] => none
  | [x] => k x
  | x :: xs => match k x with
    | some r => match kVals k xs with
      | some r' => match eqRes r r' with
        | true => some r
        | false => none
      | none => none
    | none => none
theorem kVals_ok {k : α → Ans} {r : Res} : ∀ (l : List α), kVals k l = some r → ∀ x ∈ l, k x = some r
  | [], h => by cases h
  | [y], h => fun x hx => by cases List.mem_singleton.1 hx; exact h
  | y :: z :: l, h => fun x hx => by
    unfold kVals at h
    split at h <;> try cases h
    rename_i r1 h1
    split at h <;> try cases h
    rename_i r2 h2
    split at h <;> cases h
    rename_i he
    rcases List.mem_cons.1 hx with rfl | hx
    · exact h1
    · rw [eqRes_eq he]; exact kVals_ok _ h2 x hx
noncomputable def kRet (o : Oper) (e : Env) (k : Env → AH → Ans) (K : Exit → Env → AH → Ans) : Ret → AH → Ans
  | .ret v, H => e.putK o.dst v fun e => k e H
  | .pan c, H => K (.panic c) e H
noncomputable def kAlone (P : Program) (G : KFn) (ro : Option Nat) (o : Oper) (e : Env) (H : AH) (k : Env → AH → Ans) (K : Exit → Env → AH → Ans) : Ans :=
  match fOp P e.eval o H with
  | .vals l => kVals (fun x => normH x.2 fun H' => e.putK o.dst x.1 fun e => k e H') l
  | .skip H' => normH H' fun H' => e.putK o.dst undef fun e => k e H'
  | .enter f args H' => normH H' fun H' => G (.fn f args) H' (kRet o e k K)
  | .round l args H' => normH H' fun H' => G (.round l args) H' (kRet o e k K)
  | .pan v H' => K (.panic [{ v, recovered := false }]) e H'
  | .dfr d H' => match ro with
    | none => normH H' fun H' => match e with
      | ⟨t, n, ds⟩ => (⟨t, n, d :: ds⟩ : Env).putK o.dst undef fun e => k e H'
    | some _ => none
  | _ => none
noncomputable def kOps (P : Program) (G : KFn) (ro : Option Nat) (ops : Array Oper) (K : Exit → Env → AH → Ans) (l : List Oper) : Env → AH → Ans :=
  List.rec (motive := fun _ => Env → AH → Ans) (fun e H => K .normal e H)
    (fun o _ ih e H => Bool.rec (motive := fun _ => Ans) (e.putK o.dst undef fun e => ih e H) (kAlone P G ro o e H ih K) (Region.wanted o (yieldE ops e))) l
noncomputable def kOne (P : Program) (ops : Array Oper) (j : Nat) (e : Env) (H : AH) (k : Env → Ans) : Ans :=
  match ops[j]? with
  | some o => Bool.rec (motive := fun _ => Ans) none (Bool.rec (motive := fun _ => Ans) (e.putK o.dst undef k) (match fOp P e.eval o H with
      | .vals [(v, _)] => e.putK o.dst v k
      | _ => none) (Region.wanted o (yieldE ops e))) (opPure o.op || H.tidyB)
  | none => none
noncomputable def kEach (P : Program) (G : KFn) (ro : Option Nat) (ops : Array Oper) (j : Nat) (e : Env) (H : AH) (k : Env → AH → Ans) : Ans :=
  match ops[j]? with
  | some o => Bool.rec (motive := fun _ => Ans) (e.putK o.dst undef fun e => k e H) (kAlone P G ro o e H k fun _ _ _ => none) (Region.wanted o (yieldE ops e))
  | none => none
noncomputable def kAny (P : Program) (G : KFn) (ro : Option Nat) (ops : Array Oper) (k : Env → AH → Ans) : Nat → Array Bool → Env → AH → Ans
  | 0 => fun listed e H => match Region.ready .any ops listed with
    | [] => k e H
    | _ => none
  | m + 1 => fun listed e H => match Region.ready .any ops listed with
    | [] => k e H
    | rs => match rs.find? (freeOp P ops listed) with
      | some j => kOne P ops j e H fun e => kAny P G ro ops k m (listed.setIfInBounds j true) e H
      | none => kVals (fun j => kEach P G ro ops j e H fun e H => kAny P G ro ops k m (listed.setIfInBounds j true) e H) rs
noncomputable def kJump (e : Env) (H : AH) (K : Exit → Env → AH → Ans) : Option Code → Ans
  | none => K .normal e H
  | some .ret => K .ret e H
  | some (.exit id) => K (.exit id) e H
  | some (.goto l) => K (.goto l) e H
  | _ => none
noncomputable def kRangeEnd (l : Nat) (e : Env) (K : Exit → Env → AH → Ans) : Ret → AH → Ans
  | .ret _, H' => match loopOf H' l with
    | some r => match r.state with
      | .busy => none
      | _ => normH (H'.set l (.obj (.loop { r with state := .exhausted }))) fun H' => kJump e H' K r.pending
    | none => none
  | .pan c, H' => K (.panic c) e H'
noncomputable def kRange (P : Program) (G : KFn) (g : Value) (l : Nat) (e : Env) (H : AH) (K : Exit → Env → AH → Ans) : Ans :=
  match g with
  | .func (.func f) first captured => match bodyOf P f with
    | true => G (.fn f (first.toList ++ [.func (.yield l) #[] #[]] ++ captured.toList)) H (kRangeEnd l e K)
    | false => none
  | _ => none
noncomputable def kThen (k : Env → AH → Ans) (K : Exit → Env → AH → Ans) : Exit → Env → AH → Ans
  | .normal, e, H => k e H
  | x, e, H => K x e H
noncomputable def kBlock (id : Nat) (K : Exit → Env → AH → Ans) : Exit → Env → AH → Ans
  | .exit id', e, H => Bool.rec (motive := fun _ => Ans) (K (.exit id') e H) (K .normal e H) (Nat.beq id' id)
  | x, e, H => K x e H
noncomputable def kScope (K : Exit → Env → AH → Ans) : Exit → Env → AH → Ans
  | .goto _, _, _ => none
  | x, e, H => K x e H
noncomputable def kOut (K : Exit → Env → AH → Ans) : Out → Ans
  | .mk x e H => K x e H
  | .bad _ => none
noncomputable def kC (P : Program) (F : EvF) (G : KFn) : Nat → Option Nat → Code → (Exit → Env → AH → Ans) → Env → AH → Ans
  | 0 => fun _ _ _ _ _ => none
  | n + 1 => fun ro c K e H => match c with
    | .skip | .label _ => K .normal e H
    | .exit id => K (.exit id) e H
    | .goto l => K (.goto l) e H
    | .ret => K .ret e H
    | .region _ ops false => kOps P G ro ops K ops.toList e H
    | .region _ ops true => Bool.rec (motive := fun _ => Ans) (kAny P G ro ops (fun e H => K .normal e H) ops.size (Array.replicate ops.size false) e H) (kOut K (evAny P F ops e H)) (drawOk P ops)
    | .seq x y => kC P F G n ro x (kThen (fun e H => kC P F G n ro y K e H) K) e H
    | .cond c x y => match e.eval c with
      | .bool b => Bool.rec (motive := fun _ => Ans) (kC P F G n ro y K e H) (kC P F G n ro x K e H) b
      | _ => none
    | .block id c => kC P F G n ro c (kBlock id K) e H
    | .loop c => kC P F G n ro c (kThen (fun e H => kC P F G n ro (.loop c) K e H) K) e H
    | .scope c => kC P F G n ro c (kScope K) e H
    | .rangeFunc g ps x y => forceN H.next fun l => match ro with
      | none => forceL e.arr.toList fun tl => normH ((H.new (.obj (.deferred (some [])))).new (.obj (.loop { state := .ready, pending := none, fn := 0, tmps := ⟨tl⟩, params := ps, assign := x, body := y, defers := l }))) fun H' =>
          match e with
          | ⟨t, n, ds⟩ => kRange P G (Env.eval ⟨t, n, ds⟩ g) (Nat.succ l) ⟨t, n, { target := .collected l, args := #[] } :: ds⟩ H' K
      | some l0 => match loopOf H l0 with
        | some r0 => forceL e.arr.toList fun tl => normH (H.new (.obj (.loop { state := .ready, pending := none, fn := 0, tmps := ⟨tl⟩, params := ps, assign := x, body := y, defers := r0.defers }))) fun H' =>
          kRange P G (e.eval g) l e H' K
        | none => none
    | _ => none

section
variable {G : KFn} (hG : KFOk X G) (hm : X.Mono) {r : Res} {Q : Post}
 include hG hm
theorem kRet_ok {o : Oper} {e : Env} (he : e.Wf) {k : Env → AH → Ans} {K : Exit → Env → AH → Ans} {Kp : Pre} (hk : ∀ e' H', e'.Wf → k e' H' = some r → Kp e'.act H') (hK : ∀ x e' H', e'.Wf → K x e' H' = some r → Q x e'.act H')
    {c : Cal} {H : AH} (h : G c H (kRet o e k K) = some r) : X c H (resA Q Kp e.act o.dst) := by
  refine hm _ _ _ _ (fun a H' ha => ?_) (hG _ _ _ _ h)
  cases a with
  | ret v =>
    have ha : (e.putK o.dst v fun e => k e H') = some r := ha
    rw [Env.putK_eq] at ha
    have := hk _ _ (Env.put_wf he _ _) ha
    rw [Env.act_put] at this
    exact this
  | pan c => exact hK _ _ _ he ha
theorem kAlone_ok {ro : Option Nat} {o : Oper} {e : Env} {H : AH} (he : e.Wf) {k : Env → AH → Ans} {K : Exit → Env → AH → Ans} {Kp : Pre} (hk : ∀ e' H', e'.Wf → k e' H' = some r → Kp e'.act H') (hK : ∀ x e' H', e'.Wf → K x e' H' = some r → Q x e'.act H')
    (h : kAlone P G ro o e H k K = some r) : stepA P X ro o e.act Kp Q (aOp P e.act.eval o H) := by
  have hev : e.act.eval = e.eval := funext (Env.act_eval he)
  rw [hev, ← fOp_eq]
  unfold kAlone at h
  split at h
  · rename_i l heq
    rw [heq]
    intro x hx
    have := kVals_ok _ h x hx
    rw [normH_eq, Env.putK_eq] at this
    have := hk _ _ (Env.put_wf he _ _) this
    rw [Env.act_put] at this
    exact this
  · rename_i H1 heq
    rw [heq]
    rw [normH_eq, Env.putK_eq] at h
    have := hk _ _ (Env.put_wf he _ _) h
    rw [Env.act_put] at this
    exact this
  · rename_i f args H1 heq
    rw [heq]
    rw [normH_eq] at h
    exact kRet_ok hG hm he hk hK h
  · rename_i l args H1 heq
    rw [heq]
    rw [normH_eq] at h
    exact kRet_ok hG hm he hk hK h
  · rename_i v H1 heq
    rw [heq]
    exact hK _ _ _ he h
  · rename_i d H1 heq
    rw [heq]
    split at h
    · rw [normH_eq] at h
      obtain ⟨t, n, ds⟩ := e
      dsimp only at h
      rw [Env.putK_eq] at h
      have hw : Env.Wf ⟨t, n, d :: ds⟩ := he
      have := hk _ _ (Env.put_wf hw _ _) h
      rw [Env.act_put] at this
      exact ⟨rfl, this⟩
    · cases h
  · cases h
theorem kOps_ok {ro : Option Nat} {ops : Array Oper} {K : Exit → Env → AH → Ans} (hK : ∀ x e' H', e'.Wf → K x e' H' = some r → Q x e'.act H') : ∀ (l : List Oper) (i : Nat), ops.toList.drop i = l → ∀ e H, e.Wf → kOps P G ro ops K l e H = some r →
    opsA P X ro ops Q (List.range' i l.length) e.act H
  | [], i, _, e, H, he, h => hK _ _ _ he h
  | o :: l, i, hl, e, H, he, h => by
    have ho : ops[i]? = some o := by
      have : (ops.toList.drop i)[0]? = some o := by rw [hl]; rfl
      rw [List.getElem?_drop, Array.getElem?_toList] at this
      exact this
    have hl' : ops.toList.drop (i + 1) = l := by rw [← List.drop_drop, hl]; rfl
    have ih := kOps_ok (ro := ro) hK l (i + 1) hl'
    show opA P X ro ops Q i (opsA P X ro ops Q (List.range' (i + 1) l.length)) e.act H
    unfold opA
    rw [ho]
    dsimp only
    rw [← yieldE_eq]
    have h : Bool.rec (motive := fun _ => Ans) (e.putK o.dst undef fun e => kOps P G ro ops K l e H) (kAlone P G ro o e H (kOps P G ro ops K l) K) (Region.wanted o (yieldE ops e)) = some r := h
    cases hw : Region.wanted o (yieldE ops e) with
    | true =>
      rw [hw] at h
      rw [if_pos rfl]
      exact kAlone_ok hG hm he ih hK h
    | false =>
      rw [hw] at h
      rw [if_neg Bool.false_ne_true]
      have h : (e.putK o.dst undef fun e => kOps P G ro ops K l e H) = some r := h
      rw [Env.putK_eq] at h
      have := ih _ _ (Env.put_wf he _ _) h
      rw [Env.act_put] at this
      exact this
 omit hG hm in
theorem shut_step {ops : Array Oper} {listed : Array Bool} (hl : listed.size = ops.size) (hs : ShutS ops fun k => listed.getD k false) {j : Nat} (hj : j ∈ Region.ready .any ops listed) : ShutS ops fun k => (listed.setIfInBounds j true).getD k false := by
  obtain ⟨b, hb, _, hjn⟩ := ready_spec hj
  have hjlt : j < ops.size := (Array.getElem?_eq_some_iff.1 hb).1
  have hS2 : ∀ k, (listed.setIfInBounds j true).getD k false = if k = j then true else listed.getD k false := by
    intro k
    simp only [Array.getD_eq_getD_getElem?, Array.getElem?_setIfInBounds]
    by_cases hk : j = k
    · subst hk; simp [hl, hjlt]
    · rw [if_neg hk, if_neg (fun h => hk h.symm)]
  intro k hk q hq
  dsimp only at hk ⊢
  rw [hS2] at hk ⊢
  by_cases hqj : q = j
  · rw [if_pos hqj]
  · rw [if_neg hqj]
    by_cases hkj : k = j
    · subst hkj; exact hjn q hq
    · rw [if_neg hkj] at hk; exact hs k hk q hq
theorem kEach_ok {ro : Option Nat} {ops : Array Oper} {j : Nat} {e : Env} {H : AH} (he : e.Wf) {k : Env → AH → Ans} {Kp : Pre} (hk : ∀ e' H', e'.Wf → k e' H' = some r → Kp e'.act H')
    (h : kEach P G ro ops j e H k = some r) : opA P X ro ops Q j Kp e.act H := by
  unfold kEach at h
  unfold opA
  split at h
  · rename_i o ho
    rw [ho]
    dsimp only
    rw [← yieldE_eq]
    cases hw : Region.wanted o (yieldE ops e) with
    | true =>
      rw [hw] at h
      rw [if_pos rfl]
      exact kAlone_ok hG hm he hk (fun _ _ _ _ hx => by cases hx) h
    | false =>
      rw [hw] at h
      rw [if_neg Bool.false_ne_true]
      have h : (e.putK o.dst undef fun e => k e H) = some r := h
      rw [Env.putK_eq] at h
      have := hk _ _ (Env.put_wf he _ _) h
      rw [Env.act_put] at this
      exact this
  · cases h
theorem kAny_ok {ro : Option Nat} {ops : Array Oper} {k : Env → AH → Ans} (hk : ∀ e' H', e'.Wf → k e' H' = some r → Q .normal e'.act H') : ∀ (n : Nat) (listed : Array Bool) (e : Env) (H : AH), listed.size = ops.size → (ShutS ops fun k => listed.getD k false) → e.Wf →
    kAny P G ro ops k n listed e H = some r → anyA P X ro ops (Qn Q) n listed e.act H := by
  intro n
  induction n with
  | zero =>
    intro listed e H hl hs he h
    unfold kAny at h
    split at h
    · rename_i hr; exact ⟨hr, rfl, hk _ _ he h⟩
    · cases h
  | succ m ih =>
    intro listed e H hl hs he h
    unfold kAny at h
    split at h
    · rename_i hr; exact ⟨fun _ => ⟨rfl, hk _ _ he h⟩, fun i hi => (by rw [hr] at hi; cases hi)⟩
    · rename_i hne
      split at h
      · rename_i j hj
        have hjr := List.mem_of_find?_eq_some hj
        have hjf : freeOp P ops listed j = true := by simpa using List.find?_some hj
        unfold kOne at h
        split at h
        · rename_i o ho
          have hio : opInert P o.op = true := by
            unfold freeOp at hjf
            rw [ho] at hjf
            simp only [Bool.and_eq_true] at hjf
            exact hjf.1
          cases hp : (opPure o.op || H.tidyB) with
          | false => rw [hp] at h; cases h
          | true =>
            rw [hp] at h
            have hp2 : opPure o.op = true ∨ H.tidy := by
              rw [Bool.or_eq_true] at hp
              exact hp.imp id AH.tidyB_ok
            cases hw : Region.wanted o (yieldE ops e) with
            | false =>
              rw [hw] at h
              have h : (e.putK o.dst undef fun e => kAny P G ro ops k m (listed.setIfInBounds j true) e H) = some r := h
              rw [Env.putK_eq] at h
              have := ih _ _ _ (by simpa using hl) (shut_step hl hs hjr) (Env.put_wf he _ _) h
              rw [Env.act_put] at this
              exact any_first hm ho hio m listed _ H hl hs hjr hjf (.inl ⟨by rw [← yieldE_eq]; exact hw, rfl⟩) hp2 this
            | true =>
              rw [hw] at h
              have h : (match fOp P e.eval o H with
                | .vals [(v, _)] => e.putK o.dst v fun e => kAny P G ro ops k m (listed.setIfInBounds j true) e H
                | _ => none) = some r := h
              split at h <;> try cases h
              rename_i v H1 heq
              rw [fOp_eq] at heq
              obtain ⟨v2, hv2⟩ := inert_vals hio heq
              cases hv2
              rw [Env.putK_eq] at h
              have := ih _ _ _ (by simpa using hl) (shut_step hl hs hjr) (Env.put_wf he _ _) h
              rw [Env.act_put] at this
              refine any_first hm ho hio m listed _ H hl hs hjr hjf (.inr ⟨by rw [← yieldE_eq]; exact hw, ?_⟩) hp2 this
              rw [show e.act.eval = e.eval from funext (Env.act_eval he)]
              exact heq
        · cases h
      · have hall := kVals_ok _ h
        refine ⟨fun hr => (hne hr).elim, fun i hi => ?_⟩
        exact kEach_ok hG hm he (fun e' H' he' h' => ih _ _ _ (by simpa using hl) (shut_step hl hs hi) he' h') (hall i hi)
 omit hG hm in
theorem kJump_ok {e : Env} {H : AH} (he : e.Wf) {K : Exit → Env → AH → Ans} (hK : ∀ x e' H', e'.Wf → K x e' H' = some r → Q x e'.act H') {p : Option Code} (h : kJump e H K p = some r) : jumpA Q e.act H p := by
  unfold kJump at h
  split at h <;> first | exact hK _ _ _ he h | cases h
theorem kRange_ok {g : Value} {l : Nat} {e : Env} {H : AH} (he : e.Wf) {K : Exit → Env → AH → Ans} (hK : ∀ x e' H', e'.Wf → K x e' H' = some r → Q x e'.act H') (h : kRange P G g l e H K = some r) :
    rangeA P X Q g l e.act H := by
  unfold kRange at h
  split at h
  · rename_i f first captured
    split at h
    · rename_i hb
      refine ⟨hb, hm _ _ _ _ (fun a H' ha => ?_) (hG _ _ _ _ h)⟩
      cases a with
      | pan c => exact hK _ _ _ he ha
      | ret v =>
        simp only [kRangeEnd] at ha
        split at ha
        · rename_i q hq
          have hnb : q.state ≠ .busy := by intro hb; rw [hb] at ha; cases ha
          have h2 : kJump e (H'.set l (.obj (.loop { q with state := .exhausted }))) K q.pending = some r := by
            revert ha
            cases q.state <;> intro ha <;> first | exact absurd rfl hnb | cases ha | (rw [normH_eq] at ha; exact ha)
          exact ⟨q, hq, hnb, kJump_ok he hK h2⟩
        · cases ha
    · cases h
  · cases h
theorem kC_ok (hF : FOk X F) : ∀ (n : Nat) (ro : Option Nat) (c : Code) (Q : Post) (K : Exit → Env → AH → Ans), (∀ x e' H', e'.Wf → K x e' H' = some r → Q x e'.act H') → ∀ e H, e.Wf → kC P F G n ro c K e H = some r → wpC P X ro c Q e.act H := by
  intro n
  induction n using Nat.strongRecOn with
  | _ n ih =>
  intro ro c Q K hK e H he h
  cases n with
  | zero => cases h
  | succ n =>
  have ihn := ih n (Nat.lt_succ_self n)
  cases c with
  | skip => exact hK _ _ _ he h
  | label l => exact hK _ _ _ he h
  | exit id => exact hK _ _ _ he h
  | goto l => exact hK _ _ _ he h
  | ret => exact hK _ _ _ he h
  | refuse w => cases h
  | region id ops d =>
    cases d with
    | true =>
      cases hd : drawOk P ops with
      | false =>
        simp only [kC] at h
        rw [hd] at h
        have h : kAny P G ro ops (fun e H => K .normal e H) ops.size (Array.replicate ops.size false) e H = some r := h
        have hfalse : ∀ i, (Array.replicate ops.size false).getD i false = false := by
          intro i
          simp only [Array.getD_eq_getD_getElem?, Array.getElem?_replicate]
          split <;> rfl
        have := kAny_ok (P := P) (ro := ro) (Q := Q) hG hm (fun e' H' he' hx => hK .normal e' H' he' hx) ops.size (Array.replicate ops.size false) e H (by simp) (fun j hj => by dsimp only at hj; rw [hfalse] at hj; cases hj) he h
        exact anyA_mono (P := P) (fun _ _ _ hx => hx) hm (fun x a H hx => by rw [hx.1]; exact hx.2) _ _ _ _ this
      | true =>
        simp only [kC] at h
        rw [hd] at h
        have h : kOut K (evAny P F ops e H) = some r := h
        cases ha : evAny P F ops e H with
        | bad w => rw [ha] at h; cases h
        | mk x e1 H1 =>
          rw [ha] at h
          have := evAny_ok (P := P) (ro := ro) (ops := ops) (Q := Q) hF he ha
          exact this.2 (hK _ _ _ this.1 h)
    | false =>
      have := kOps_ok (ro := ro) (Q := Q) (P := P) (ops := ops) hG hm hK ops.toList 0 rfl e H he h
      rw [Array.length_toList, ← List.range_eq_range'] at this
      exact this
  | seq y z =>
    refine ihn ro y (thenA (wpC P X ro z Q) Q) _ (fun x e' H' hw hx => ?_) e H he h
    cases x <;> first | exact ihn ro z Q K hK e' H' hw hx | exact hK _ _ _ hw hx
  | cond c y z =>
    simp only [kC] at h
    split at h
    · rename_i b hb
      cases b with
      | true => exact ⟨true, (Env.act_eval he c).trans hb, ihn ro y Q K hK e H he h⟩
      | false => exact ⟨false, (Env.act_eval he c).trans hb, ihn ro z Q K hK e H he h⟩
    · cases h
  | block id c =>
    refine ihn ro c (blockA id Q) _ (fun x e' H' hw hx => ?_) e H he h
    cases x with
    | exit id' =>
      simp only [kBlock] at hx
      simp only [blockA]
      cases hc : Nat.beq id' id with
      | true => rw [hc] at hx; rw [if_pos (Nat.eq_of_beq_eq_true hc)]; exact hK _ _ _ hw hx
      | false => rw [hc] at hx; rw [if_neg (Nat.ne_of_beq_eq_false hc)]; exact hK _ _ _ hw hx
    | _ => exact hK _ _ _ hw hx
  | loop c =>
    refine ⟨fun m a H => ∃ e : Env, a = e.act ∧ e.Wf ∧ m ≤ n ∧ kC P F G (m + 1) ro (.loop c) K e H = some r, ⟨n, e, rfl, he, Nat.le_refl _, h⟩, ?_⟩
    rintro m a H ⟨e, rfl, he, hmn, h⟩
    refine ih m (by omega) ro c _ _ (fun x e' H' hw hx => ?_) e H he h
    cases x with
    | normal =>
      cases m with
      | zero => cases hx
      | succ m => exact ⟨m, Nat.lt_succ_self m, e', rfl, hw, by omega, hx⟩
    | _ => exact hK _ _ _ hw hx
  | scope c =>
    refine ihn ro c _ _ (fun x e' H' hw hx => ?_) e H he h
    cases x with
    | goto l => cases hx
    | _ => exact hK _ _ _ hw hx
  | rangeFunc g ps x y =>
    simp only [kC] at h
    rw [forceN_eq] at h
    cases ro with
    | none =>
      simp only at h
      rw [forceL_eq, normH_eq] at h
      obtain ⟨t, m, ds⟩ := e
      have hw : Env.Wf ⟨t, m, { target := .collected H.next, args := #[] } :: ds⟩ := he
      have := kRange_ok (P := P) (Q := Q) hG hm hw hK h
      rw [← Env.act_eval he] at this
      exact this
    | some l0 =>
      simp only at h
      split at h
      · rename_i r0 hr0
        rw [forceL_eq, normH_eq] at h
        have := kRange_ok (P := P) (Q := Q) hG hm he hK h
        rw [← Env.act_eval he] at this
        exact ⟨r0, hr0, this⟩
      · cases h
end
end Go.Mt
