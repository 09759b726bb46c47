/- A way to reckon with the model (part 4 of 4): an abstract heap, what the program comes to on it, and the proof that what is reckoned so holds of every run of the model. -/
import Derived.Shelf.Bytes.SlJoin
import Derived.Shelf.Strings.Search2
import Derived.Test.YtidopoemgmbogaaGreatDoorMtC
/- The whole computation: functions, contracts, calls on what they reach, calls that go every way. -/
namespace Go.Mt
variable {P : Program} {X : Fns} {F : EvF} {α β : Type}

noncomputable def kLeave (P : Program) (G : KFn) (fn : Func) (e : Env) (K : Ret → AH → Ans) (l : List Deferred) : FrameMode → AH → Ans :=
  List.rec (motive := fun _ => FrameMode → AH → Ans)
    (fun u H => match u with
      | .returning => match fn.results.toList.mapM (resE P H e) with
        | some [v] => forceV v fun v => K (.ret v) H
        | some vs => K (.ret (.tuple ⟨vs⟩)) H
        | none => none
      | .panicking c => K (.pan c) H
      | .run => none)
    (fun d _ ih u H => match d with
      | ⟨.collected r, _⟩ => match H.get r with
        | some (.obj (.deferred (some []))) => normH (H.set r (.obj (.deferred none))) fun H => ih u H
        | _ => none
      | ⟨.fn (.func f) cap, args⟩ => match bodyOf P f with
        | true => G (.dfn f (args.toList ++ cap.toList)) H fun a H => match a with
          | .ret _ => ih (settle u) H
          | .pan c => ih (raised u c) H
        | false => none
      | _ => none) l
noncomputable def kFull (P : Program) (G : KFn) (fn : Func) (K : Ret → AH → Ans) : Exit → Env → AH → Ans
  | .normal, e, H | .ret, e, H => kLeave P G fn e K e.ds .returning H
  | .panic c, e, H => kLeave P G fn e K e.ds (.panicking c) H
  | _, _, _ => none
noncomputable def kPlain (P : Program) (fn : Func) (K : Ret → AH → Ans) : Exit → Env → AH → Ans
  | .normal, e, H | .ret, e, H => match e.ds with
    | [] => match fn.results.toList.mapM (resE P H e) with
      | some [v] => forceV v fun v => K (.ret v) H
      | some vs => K (.ret (.tuple ⟨vs⟩)) H
      | none => none
    | _ => none
  | .panic c, e, H => match e.ds with
    | [] => K (.pan c) H
    | _ => none
  | _, _, _ => none
noncomputable def kRoundEnd (l : Nat) (K : Ret → AH → Ans) (st : LoopState) (p : Option Code) (b : Bool) (H : AH) : Ans :=
  match loopOf H l with
  | some r => normH (H.set l (.obj (.loop { r with state := st, pending := p }))) fun H => K (.ret (.bool b)) H
  | none => none
noncomputable def kRoundK (l : Nat) (K : Ret → AH → Ans) : Exit → Env → AH → Ans
  | .normal, _, H => kRoundEnd l K .ready none true H
  | .ret, _, H => kRoundEnd l K .done (some .ret) false H
  | .exit id, _, H => kRoundEnd l K .done (some (.exit id)) false H
  | .goto t, _, H => kRoundEnd l K .done (some (.goto t)) false H
  | _, _, _ => none
noncomputable def kAssignK (P : Program) (F : EvF) (G : KFn) (n l : Nat) (body : Code) (K : Ret → AH → Ans) : Exit → Env → AH → Ans
  | .normal, e, H' => match loopOf H' l with
    | some r' => match r'.state with
      | .ready => normH (H'.set l (.obj (.loop { r' with state := .busy }))) fun H' => kC P F G n (some l) body (kRoundK l K) e H'
      | _ => none
    | none => none
  | _, _, _ => none
noncomputable def kRound (P : Program) (F : EvF) (G : KFn) (n : Nat) (l : Nat) (args : List Value) (H : AH) (K : Ret → AH → Ans) : Ans :=
  match loopOf H l with
  | some r => match codeOk P r.assign && codeOk P r.body with
    | true => mkEnvK ((r.params.zip ⟨args⟩).foldl (fun tmps (t, a) => tmps.setIfInBounds t a) r.tmps).toList 0 fun e => kC P F G n (some l) r.assign (kAssignK P F G n l r.body K) e H
    | false => none
  | none => none
noncomputable def kBody (P : Program) (F : EvF) (G : KFn) (n : Nat) (f : FuncId) (args : List Value) (H : AH) (K : Ret → AH → Ans) : Ans :=
  match bodyFor P f with
  | some (fn, c) => mkEnvK args fn.ntmps fun e => kC P F G n none c (kFull P G fn K) e H
  | none => none
noncomputable def kF (P : Program) (F : EvF) (ov : FuncId → List Value → AH → Option RetO) : Nat → KFn
  | 0 => fun _ _ _ => none
  | n + 1 => fun c H K => match c with
    | .fn f args => match ov f args H with
      | some (.mk r H') => K r H'
      | some (.bad _) => none
      | none => kBody P F (kF P F ov n) n f args H K
    | .dfn f args => match bodyFor P f with
      | some (fn, c) => mkEnvK args fn.ntmps fun e => kC P F (kF P F ov n) n none c (kPlain P fn K) e H
      | none => none
    | .round l args => kRound P F (kF P F ov n) n l args H K

section
variable {G : KFn} (hG : KFOk X G) (hm : X.Mono) {r : Res}
 include hG hm
 omit hG hm in
theorem kRes_ok {e : Env} (he : e.Wf) {H : AH} {fn : Func} {K : Ret → AH → Ans} (h : (match fn.results.toList.mapM (resE P H e) with
      | some [v] => forceV v fun v => K (.ret v) H
      | some vs => K (.ret (.tuple ⟨vs⟩)) H
      | none => none) = some r) : ∃ v, aResults P fn e.act.tmps H = some v ∧ K (.ret v) H = some r := by
  rw [aResults_eq (resE P H e) fun r => by
    cases r with
    | tmp t => exact (congrArg some (Env.act_eval he (.tmp t))).symm
    | cell a t => exact (congrArg (aLoad P H t) (Env.act_eval he (.tmp a))).symm]
  revert h
  generalize fn.results.toList.mapM (resE P H e) = q
  intro h
  split at h
  · rw [forceV_eq] at h; exact ⟨_, rfl, h⟩
  · rename_i vs hn
    refine ⟨_, ?_, h⟩
    cases vs with
    | nil => rfl
    | cons a l => cases l with
      | nil => exact absurd rfl (hn a)
      | cons b l => rfl
  · cases h
theorem kLeave_ok {fn : Func} {e : Env} (he : e.Wf) {K : Ret → AH → Ans} : ∀ (l : List Deferred) (u : FrameMode) (H : AH), kLeave P G fn e K l u H = some r → leaveA P X fn e.act.tmps (fun a H' => K a H' = some r) l u H
  | [], u, H, h => by
    cases u with
    | returning => exact kRes_ok he h
    | panicking c => exact h
    | run => cases h
  | ⟨t, args⟩ :: l, u, H, h => by
    have ih := kLeave_ok (fn := fn) (K := K) he l
    cases t with
    | collected b =>
      have h : (match H.get b with
        | some (.obj (.deferred (some []))) => normH (H.set b (.obj (.deferred none))) fun H => kLeave P G fn e K l u H
        | _ => none) = some r := h
      split at h
      · rename_i hb
        rw [normH_eq] at h
        exact ⟨hb, ih u _ h⟩
      · cases h
    | fn f cap =>
      cases f with
      | func f =>
        have h : (match bodyOf P f with
          | true => G (.dfn f (args.toList ++ cap.toList)) H fun a H => match a with
            | .ret _ => kLeave P G fn e K l (settle u) H
            | .pan c => kLeave P G fn e K l (raised u c) H
          | false => none) = some r := h
        split at h
        · rename_i hb
          refine ⟨hb, hm _ _ _ _ (fun a H' ha => ?_) (hG _ _ _ _ h)⟩
          cases a with
          | ret v => exact ih _ _ ha
          | pan c => exact ih _ _ ha
        · cases h
      | _ => cases h
    | _ => cases h
theorem kFull_ok {fn : Func} {K : Ret → AH → Ans} : ∀ x e' H', e'.Wf → kFull P G fn K x e' H' = some r → leavePost P X fn (fun a H' => K a H' = some r) x e'.act H' := by
  intro x e' H' he h
  cases x with
  | normal => exact kLeave_ok hG hm he _ _ _ h
  | ret => exact kLeave_ok hG hm he _ _ _ h
  | panic c => exact kLeave_ok hG hm he _ _ _ h
  | _ => cases h
 omit hG hm in
theorem kPlain_ok {fn : Func} {K : Ret → AH → Ans} : ∀ x e' H', e'.Wf → kPlain P fn K x e' H' = some r → plainPost P fn (fun a H' => K a H' = some r) x e'.act H' := by
  intro x e' H' he h
  cases x with
  | normal =>
    simp only [kPlain] at h
    split at h
    · rename_i hd; exact ⟨hd, kRes_ok he h⟩
    · cases h
  | ret =>
    simp only [kPlain] at h
    split at h
    · rename_i hd; exact ⟨hd, kRes_ok he h⟩
    · cases h
  | panic c =>
    simp only [kPlain] at h
    split at h
    · rename_i hd; exact ⟨hd, h⟩
    · cases h
  | _ => cases h
 omit hG hm in
theorem kRoundK_ok {l : Nat} {K : Ret → AH → Ans} : ∀ x e' H', e'.Wf → kRoundK l K x e' H' = some r → roundEnd (fun a H' => K a H' = some r) l x e'.act H' := by
  intro x e' H' _ h
  cases x <;> simp only [kRoundK, kRoundEnd] at h <;> first
    | (cases h; done)
    | (split at h
       · rename_i q hq; rw [normH_eq] at h; exact ⟨q, hq, h⟩
       · cases h)
theorem kRound_ok (hF : FOk X F) {n l : Nat} {args : List Value} {H : AH} {K : Ret → AH → Ans} (h : kRound P F G n l args H K = some r) {Spec : Fns} : Rules P Spec X (.round l args) H fun a H' => K a H' = some r := by
  unfold kRound at h
  split at h <;> try cases h
  rename_i q hq
  split at h <;> try cases h
  rename_i hok
  rw [Bool.and_eq_true] at hok
  rw [mkEnvK_eq] at h
  refine ⟨q, hq, hok.1, hok.2, ?_⟩
  have hact := mkEnv_zero ((q.params.zip ⟨args⟩).foldl (fun tmps (t, a) => tmps.setIfInBounds t a) q.tmps).toList
  have := kC_ok (P := P) (F := F) hG hm hF n (some l) q.assign (fun e a H' => e = .normal ∧ ∃ r', loopOf H' l = some r' ∧ r'.state = .ready ∧
        wpC P X (some l) q.body (roundEnd (fun a H' => K a H' = some r) l) a (H'.set l (.obj (.loop { r' with state := .busy })))) _ (fun x e' H' hw hx => ?_) _ _ (mkEnv_wf _ _) h
  · rw [hact] at this
    exact this
  · cases x with
    | normal =>
      simp only [kAssignK] at hx
      split at hx <;> try cases hx
      rename_i q' hq'
      split at hx <;> try cases hx
      rename_i hst
      rw [normH_eq] at hx
      exact ⟨rfl, q', hq', hst, kC_ok (P := P) (F := F) hG hm hF n (some l) q.body _ _ kRoundK_ok _ _ hw hx⟩
    | _ => cases hx
end
theorem kBody_ok {G : KFn} {Spec : Fns} (hsp : Spec.Mono) (hG : KFOk (W P Spec) G) (hF : FOk (W P Spec) F) {n : Nat} {f : FuncId} {args : List Value} {H : AH} {K : Ret → AH → Ans} {r : Res} (h : kBody P F G n f args H K = some r) :
    W P Spec (.fn f args) H fun a H' => K a H' = some r := by
  unfold kBody at h
  split at h
  · rename_i fn c hb
    obtain ⟨b1, b2, b3⟩ := bodyFor_ok hb
    rw [mkEnvK_eq] at h
    refine W_fold hsp (.inr ⟨fn, c, b1, b2, b3, ?_⟩)
    have := kC_ok (P := P) (F := F) hG W_mono hF n none c _ _ (kFull_ok (P := P) (fn := fn) hG W_mono) _ _ (mkEnv_wf _ _) h
    rwa [mkEnv_enter] at this
  · cases h
theorem kF_ok {Spec : Fns} (hsp : Spec.Mono) (hF : FOk (W P Spec) F) {ov : FuncId → List Value → AH → Option RetO} (hov : ∀ f args H r H', ov f args H = some (.mk r H') → ∀ R : Ret → AH → Prop, R r H' → W P Spec (.fn f args) H R) : ∀ n, KFOk (W P Spec) (kF P F ov n) := by
  intro n
  induction n with
  | zero => intro c H K r h; cases h
  | succ n ih =>
    intro c H K r h
    cases c with
    | fn f args =>
      simp only [kF] at h
      split at h
      · rename_i a H' ho
        exact hov _ _ _ _ _ ho _ h
      · cases h
      · exact kBody_ok hsp ih hF h
    | dfn f args =>
      simp only [kF] at h
      split at h
      · rename_i fn c hb
        obtain ⟨b1, b2, b3⟩ := bodyFor_ok hb
        rw [mkEnvK_eq] at h
        refine W_fold hsp (.inr ⟨fn, c, b1, b2, b3, ?_⟩)
        have := kC_ok (P := P) (F := F) ih W_mono hF n none c _ _ (kPlain_ok (P := P) (fn := fn)) _ _ (mkEnv_wf _ _) h
        rwa [mkEnv_enter] at this
      · cases h
    | round l args => exact W_fold hsp (kRound_ok ih W_mono hF h)

structure Memo where
  f : FuncId
  args : List Value
  n0 : Nat
  ps : List (Nat × ABlk)
  r : Res
noncomputable def findMemo (f : FuncId) (args : List Value) (n0 : Nat) (ps : List (Nat × ABlk)) : List Memo → Option Res
  | [] => none
  | m :: l => Bool.rec (motive := fun _ => Option Res) (findMemo f args n0 ps l) (some m.r) (Nat.beq m.f f && (Nat.beq m.n0 n0 && (eqL (eqV 20) m.args args && eqPs m.ps ps)))
theorem findMemo_ok {f : FuncId} {args : List Value} {n0 : Nat} {ps : List (Nat × ABlk)} {r : Res} : ∀ {l : List Memo}, findMemo f args n0 ps l = some r → ⟨f, args, n0, ps, r⟩ ∈ l
  | [], h => by cases h
  | m :: l, h => by
    unfold findMemo at h
    cases hc : Nat.beq m.f f && (Nat.beq m.n0 n0 && (eqL (eqV 20) m.args args && eqPs m.ps ps)) with
    | false => rw [hc] at h; exact List.mem_cons_of_mem _ (findMemo_ok h)
    | true =>
      rw [hc] at h
      obtain ⟨mf, ma, mn, mp, mr⟩ := m
      cases (show some mr = some r from h)
      simp only [Bool.and_eq_true] at hc
      have e1 : mf = f := Nat.eq_of_beq_eq_true hc.1
      have e2 : mn = n0 := Nat.eq_of_beq_eq_true hc.2.1
      have e3 : ma = args := eqL_eq (eqV_eq 20) _ _ hc.2.2.1
      have e4 : mp = ps := eqPs_eq hc.2.2.2
      subst e1; subst e2; subst e3; subst e4
      exact List.mem_cons_self ..
/-- what is laid into the computation: contracts, which calls are looked at on what they reach (1), which of them go every way (2), what is known. -/
structure Cfg where
  ov : FuncId → List Value → AH → Option RetO
  mode : FuncId → Nat
  globals : Nat
  memo : List Memo
noncomputable def ovN (cfg : Cfg) (F : EvF) (f : FuncId) (args : List Value) (H : AH) : Option RetO :=
  match cfg.ov f args H with
  | some r => some r
  | none => match cfg.mode f with
    | 0 => none
    | _ => some (F (.fn f args) H)
noncomputable def gcRet (n0 : Nat) (ps : List (Nat × ABlk)) : Ret → AH → Ans
  | .ret v, H => gcK n0 (keysOf ps) v H
  | .pan _, _ => none
noncomputable def evBody (P : Program) (F : EvF) (n : Nat) (f : FuncId) (args : List Value) (H : AH) : RetO :=
  match bodyFor P f with
  | some (fn, c) => evFull P F fn (mkEnvK args fn.ntmps fun e => evC P F n none c e H)
  | none => .bad "no body"
noncomputable def evRes (P : Program) (cfg : Cfg) (F : EvF) (n m : Nat) (f : FuncId) (args : List Value) (n0 : Nat) (ps : List (Nat × ABlk)) : Ans :=
  match m with
  | 1 => match normH (mkAH n0 ps) (fun Hr => evBody P F n f args Hr) with
    | .mk a H1 => gcRet n0 ps a H1
    | .bad _ => none
  | _ => normH (mkAH n0 ps) fun Hr => kBody P F (kF P F (ovN cfg F) n) n f args Hr (gcRet n0 ps)
noncomputable def rangeK : Nat → List Nat → List Nat
  | 0, acc => acc
  | n + 1, acc => rangeK n (n :: acc)
noncomputable def callK (P : Program) (cfg : Cfg) (F : EvF) (n m : Nat) (f : FuncId) (args : List Value) (H : AH) : RetO :=
  canonK (.bad "call") cfg.globals (reachK H 100000 (adL (adV 9) args (rangeK cfg.globals [])) .nil []) args H fun σ nc args' ps _ =>
    match (match findMemo f args' nc ps cfg.memo with
        | some r => some r
        | none => evRes P cfg F n m f args' nc ps) with
      | some r => backK (.bad "back") σ nc H r fun v H' => .mk (.ret v) H'
      | none => .bad "in call"
noncomputable def evF (P : Program) (cfg : Cfg) : Nat → EvF
  | 0 => fun _ _ => .bad "fuel"
  | n + 1 => fun c H => match c with
    | .fn f args => match cfg.ov f args H with
      | some r => r
      | none => match cfg.mode f with
        | 0 => evBody P (evF P cfg n) n f args H
        | m => callK P cfg (evF P cfg n) n m f args H
    | .dfn f args => match bodyFor P f with
      | some (fn, c) => evPlain P fn (mkEnvK args fn.ntmps fun e => evC P (evF P cfg n) n none c e H)
      | none => .bad "no body"
    | .round l args => evRound P (evF P cfg n) n l args H

def MemoOk (P : Program) (Spec : Fns) (m : Memo) : Prop :=
  W P Spec (.fn m.f m.args) (mkAH m.n0 m.ps) fun a H' => a = .ret m.r.v ∧ H' = mkAH m.r.nx m.r.ps ∧ ∀ b ∈ m.ps.map (·.1), b ∈ m.r.ps.map (·.1)
structure CfgOk (P : Program) (Spec : Fns) (cfg : Cfg) : Prop where
  ov : ∀ f args H r H', cfg.ov f args H = some (.mk r H') → ∀ R : Ret → AH → Prop, R r H' → W P Spec (.fn f args) H R
  globals : P.globals.size = cfg.globals
  memo : ∀ m ∈ cfg.memo, MemoOk P Spec m
theorem evBody_ok {Spec : Fns} (hsp : Spec.Mono) (hF : FOk (W P Spec) F) {n : Nat} {f : FuncId} {args : List Value} {H H' : AH} {r : Ret} (h : evBody P F n f args H = .mk r H') {R : Ret → AH → Prop} (hR : R r H') : W P Spec (.fn f args) H R := by
  unfold evBody at h
  split at h
  · rename_i fn c hb
    obtain ⟨b1, b2, b3⟩ := bodyFor_ok hb
    rw [mkEnvK_eq] at h
    obtain ⟨x, e1, H1, hx, hp⟩ := evFull_ok hF hR h
    refine W_fold hsp (.inr ⟨fn, c, b1, b2, b3, ?_⟩)
    have := evC_ok hF n none c x e1 H1 (leavePost P (W P Spec) fn R) _ H (mkEnv_wf _ _) hx
    rw [mkEnv_enter] at this
    exact this.2 (hp this.1)
  · cases h
theorem ovN_ok {Spec : Fns} {cfg : Cfg} (hc : CfgOk P Spec cfg) (hF : FOk (W P Spec) F) : ∀ f args H r H', ovN cfg F f args H = some (.mk r H') → ∀ R : Ret → AH → Prop, R r H' → W P Spec (.fn f args) H R := by
  intro f args H r H' h R hR
  unfold ovN at h
  split at h
  · rename_i r0 h0
    cases h
    exact hc.ov _ _ _ _ _ h0 R hR
  · split at h
    · cases h
    · exact hF _ _ _ _ (Option.some.inj h) R hR
theorem gcRet_ok {Spec : Fns} {cfg : Cfg} (hc : CfgOk P Spec cfg) {f : FuncId} {args : List Value} {n0 : Nat} {ps : List (Nat × ABlk)} {r : Res} (hn : cfg.globals ≤ n0) (hlt : ∀ b ∈ ps.map (·.1), b < n0)
    (hw : W P Spec (.fn f args) (mkAH n0 ps) fun a H' => gcRet n0 ps a H' = some r) : MemoOk P Spec ⟨f, args, n0, ps, r⟩ := by
  refine W_turn (.inl ⟨_, hw, fun a H1 ha => ⟨.ret r.v, mkAH r.nx r.ps, ?_⟩⟩)
  cases a with
  | pan c => cases ha
  | ret v =>
    have := gcK_ok (P := P) (Nat.le_trans (Nat.le_of_eq hc.globals) hn) (show gcK n0 (keysOf ps) v H1 = some r from ha)
    rw [keysOf_eq] at this
    refine ⟨?_, rfl, rfl, fun b hb => this.2 b hb (hlt b hb)⟩
    rw [show (mkAH n0 ps).next = n0 by simp [mkAH]]
    exact this.1
theorem evRes_ok {Spec : Fns} (hsp : Spec.Mono) {cfg : Cfg} (hc : CfgOk P Spec cfg) (hF : FOk (W P Spec) F) {n m : Nat} {f : FuncId} {args : List Value} {n0 : Nat} {ps : List (Nat × ABlk)} {r : Res} (hn : cfg.globals ≤ n0) (hlt : ∀ b ∈ ps.map (·.1), b < n0)
    (h : evRes P cfg F n m f args n0 ps = some r) : MemoOk P Spec ⟨f, args, n0, ps, r⟩ := by
  unfold evRes at h
  split at h
  · split at h
    · rename_i a H1 hb
      rw [normH_eq] at hb
      exact gcRet_ok hc hn hlt (evBody_ok hsp hF hb h)
    · cases h
  · rw [normH_eq] at h
    exact gcRet_ok hc hn hlt (kBody_ok hsp (kF_ok hsp hF (ovN_ok hc hF) n) hF h)
theorem callK_ok {Spec : Fns} (hsp : Spec.Mono) {cfg : Cfg} (hc : CfgOk P Spec cfg) (hF : FOk (W P Spec) F) {n m : Nat} {f : FuncId} {args : List Value} {H H' : AH} {r : Ret} (h : callK P cfg F n m f args H = .mk r H') {R : Ret → AH → Prop} (hR : R r H') : W P Spec (.fn f args) H R := by
  obtain ⟨σ, nc, args', ps, h1, h2, h3, h4, h5⟩ := canonK_ok (by simp) hc.globals h
  split at h1
  · rename_i r0 h0
    have hm : MemoOk P Spec ⟨f, args', nc, ps, r0⟩ := by
      split at h0
      · rename_i r1 hr1
        cases h0
        exact hc.memo _ (findMemo_ok hr1)
      · exact evRes_ok hsp hc hF h5 h4 h0
    obtain ⟨v, H1, e1, e2⟩ := backK_ok (by simp) h4 h1
    cases e1
    exact W_call h2 h3 hm e2 hR
  · cases h1
/-- **what the computation comes to holds.** -/
theorem evF_ok {Spec : Fns} (hsp : Spec.Mono) {cfg : Cfg} (hc : CfgOk P Spec cfg) : ∀ n, FOk (W P Spec) (evF P cfg n) := by
  intro n
  induction n with
  | zero => intro c H r H' h; cases h
  | succ n ih =>
    intro c H r H' h R hR
    cases c with
    | fn f args =>
      simp only [evF] at h
      split at h
      · rename_i r0 h0
        subst h
        exact hc.ov _ _ _ _ _ h0 R hR
      · split at h
        · exact evBody_ok hsp ih h hR
        · exact callK_ok hsp hc ih h hR
    | dfn f args =>
      simp only [evF] at h
      split at h
      · rename_i fn c hb
        obtain ⟨b1, b2, b3⟩ := bodyFor_ok hb
        rw [mkEnvK_eq] at h
        obtain ⟨x, e1, H1, hx, hp⟩ := evPlain_ok hR h
        refine W_fold hsp (.inr ⟨fn, c, b1, b2, b3, ?_⟩)
        have := evC_ok ih n none c x e1 H1 (plainPost P fn R) _ H (mkEnv_wf _ _) hx
        rw [mkEnv_enter] at this
        exact this.2 (hp this.1)
      · cases h
    | round l args => exact W_fold hsp (evRound_ok ih hR h)
end Go.Mt
/- Where a closed call begins: the tables lie as they are listed; nothing else is seen. -/
namespace Go.Mt
variable {P : Program} {Spec : Fns} {Q : Base → Prop}

/-- everything there stays as it is. -/
def Base.shut (W : World) : Base := ⟨W, fun b => b < W.heap.size, fun _ => True, fun _ h => h⟩
def intsOf (k : IntKind) (zs : List Int) : List Value := zs.map fun z => .int k z
theorem VRL_ints {ρ : Ren} {k : IntKind} : ∀ zs : List Int, VRL ρ (intsOf k zs) (intsOf k zs)
  | [] => rfl
  | z :: zs => ⟨.int k z, intsOf k zs, by simp only [VR], VRL_ints zs, rfl⟩
/-- the tables: number of the variable, kind, numbers. -/
abbrev Tabs := List (Nat × IntKind × List Int)
noncomputable def tabsPs (tabs : Tabs) : List (Nat × ABlk) := tabs.map fun t => (t.1, .arr (intsOf t.2.1 t.2.2) 0 true)
theorem mkAH_get {n : Nat} {ps : List (Nat × ABlk)} {b : Nat} {x : ABlk} (h : (mkAH n ps).get b = some x) : (b, x) ∈ ps := by
  rcases putAll_get h with h | h
  · exact h
  · rw [AH.empty_get] at h; cases h.2
def begRen (P : Program) (W : World) (u : Nat) : Ren := fun g => if g < P.globals.size then some ⟨g, 0, match W.heap[g]? with | some (.cells cs _ _) => cs.size | _ => 0, u⟩ else none
theorem begin_HR {W : World} {tabs : Tabs} {i : TypeInfo} (hi : P.info? 0 = some i)
    (ht : ∀ t ∈ tabs, t.1 < P.globals.size ∧ ∃ e fz, W.heap[t.1]? = some (.cells (intsOf t.2.1 t.2.2).toArray e fz)) :
    HR P (Base.shut W) (begRen P W i.size) (mkAH P.globals.size (tabsPs tabs)) W := by
  have mem : ∀ b x, (mkAH P.globals.size (tabsPs tabs)).get b = some x → ∃ t ∈ tabs, b = t.1 ∧ x = .arr (intsOf t.2.1 t.2.2) 0 true := by
    intro b x h
    obtain ⟨t, h1, h2⟩ := List.mem_map.1 (mkAH_get h)
    cases h2
    exact ⟨t, h1, rfl, rfl⟩
  refine ⟨?_, ?_, ?_, ?_, fun _ _ => rfl, Nat.le_refl _, fun _ _ _ _ _ _ _ => trivial, ?_, ?_, ⟨rfl, rfl, rfl⟩⟩
  · intro b hb
    have : ¬ b < P.globals.size := by simp [mkAH] at hb; omega
    simp [begRen, this]
  · intro b l x hb hx
    obtain ⟨t, h1, rfl, rfl⟩ := mem b x hx
    obtain ⟨h2, e, fz, h3⟩ := ht t h1
    simp only [begRen, if_pos h2, h3, Option.some.injEq] at hb
    subst hb
    refine ⟨_, e, fz, i, h3, rfl, hi, rfl, ?_, fun h => by cases h⟩
    have : ((intsOf t.2.1 t.2.2).toArray.toList.drop 0).take (intsOf t.2.1 t.2.2).length = intsOf t.2.1 t.2.2 := by simp
    rw [this]
    exact VRL_ints _
  · intro b b' l l' x x' _ _ hx _ hr _ _
    obtain ⟨t, _, _, rfl⟩ := mem b x hx
    cases hr
  · intro b l x _ hx hr
    obtain ⟨t, _, _, rfl⟩ := mem b x hx
    cases hr
  · intro b x hx _
    obtain ⟨t, h1, rfl, rfl⟩ := mem b x hx
    exact ⟨_, by simp only [begRen, if_pos (ht t h1).1]; rfl⟩
  · intro g hg
    exact ⟨_, _, by simp only [begRen, if_pos hg]; rfl⟩
/-- **a closed call that the semantics brings to a bool.** -/
theorem closed_calls {W : World} {tabs : Tabs} {i : TypeInfo} {f : FuncId} {b : Bool} {R : AH → Prop} (hsp : (Mt.W P Spec).le (AllSound P Q)) (hq : Q (Base.shut W)) (hi : P.info? 0 = some i)
    (ht : ∀ t ∈ tabs, t.1 < P.globals.size ∧ ∃ e fz, W.heap[t.1]? = some (.cells (intsOf t.2.1 t.2.2).toArray e fz))
    (hw : Mt.W P Spec (.fn f []) (mkAH P.globals.size (tabsPs tabs)) fun a H' => a = .ret (.bool b) ∧ R H') :
    Calls P f #[] W fun e W' => e = .returned (.bool b) ∧ W'.os = W.os ∧ W'.output = W.output ∧ ∀ i, i < W.heap.size → W'.heap[i]? = W.heap[i]? := by
  refine callsIn_wide.1 (CallsIn.mono (hsp _ _ _ hw _ hq _ W [] (begin_HR hi ht) rfl) ?_)
  rintro e W' ⟨r, H, ρ, _, h, hv, rfl, _⟩
  obtain ⟨v', hv, rfl⟩ := hv
  simp only [VR] at hv
  subst hv
  exact ⟨rfl, h.env.1, h.env.2.1, fun i hlt => h.old i hlt⟩
end Go.Mt
/- Contracts of the library's shelf as rows of the abstract semantics: internal/stringslite.Index, bytes.Join. -/
namespace Go.Mt
variable {P : Program} {w0 : Base} {w w' : World} {ρ : Ren} {H : AH}

def inByte (n : Int) : Bool := decide (0 ≤ n) && decide (n < 256)
theorem byte_back {n : Int} (h : inByte n = true) : ((UInt8.ofNat n.toNat).toNat : Int) = n := by
  simp only [inByte, Bool.and_eq_true, decide_eq_true_eq] at h
  simp only [UInt8.toNat_ofNat']
  omega
theorem aBytes_holds (h : HR P w0 ρ H w) {v v' : Value} (hv : VR ρ v v') {ns : List Int} (hr : aBytes H v = some ns) (hs : ∀ s, v ≠ .string s) (hb : ns.all inByte = true) : Lib.HoldsBytes w v' (u8s ns) := by
  unfold aBytes at hr
  split at hr <;> try cases hr
  rename_i n hn
  split at hr <;> try cases hr
  rename_i cs hcs
  unfold aCells at hcs
  split at hcs
  · obtain ⟨_, rfl⟩ := hv.slice_none_inv
    cases hcs
    cases hr
    exact ⟨none, 0, rfl, fun _ => rfl, fun a e => by cases e⟩
  · rename_i a len k
    obtain rfl : len = n := by simpa [aLen] using hn
    obtain ⟨b, c', hsl, rfl⟩ := hv.slice_inv
    split at hcs
    · rename_i hz
      cases hcs
      cases hr
      exact ⟨some b, c', by rw [hz]; rfl, (fun q => by cases q), fun a' _ i x hx => absurd hx (by simp [u8s])⟩
    · rename_i hz
      rw [if_pos (Nat.le_refl _)] at hcs
      split at hcs <;> try cases hcs
      rename_i c e ro hg
      split at hcs <;> cases hcs
      rename_i hlen
      obtain ⟨l, hl, rfl⟩ := hsl.addr (by omega)
      obtain ⟨cs', e', fz, i, h1, h2, h3, h4, h5, h6⟩ := h.arr hl hg
      have he := bytesOf_eq hr
      have hln : ns.length = len := by
        have := congrArg List.length he
        simp only [List.length_take, List.length_drop, List.length_map] at this
        omega
      refine ⟨some _, c', by rw [show (u8s ns).length = len by simp [u8s, hln]], (fun q => by cases q), fun a' ea j x hx => ?_⟩
      cases ea
      simp only [u8s, List.getElem?_map, Option.map_eq_some_iff] at hx
      obtain ⟨z, hz', rfl⟩ := hx
      have hj : j < len := by rw [← hln]; exact (List.getElem?_eq_some_iff.1 hz').1
      have hc : c[a.off + j]? = some (.int .u8 z) := by
        have := congrArg (·[j]?) he
        simp only [List.getElem?_take, List.getElem?_drop, List.getElem?_map, hz', Option.map_some, Nat.mul_one, if_pos hj] at this
        exact this
      obtain ⟨y, hy, hvr⟩ := h5.get hc
      simp only [VR] at hvr
      subst hvr
      have hlt : a.off + j < c.length := (List.getElem?_eq_some_iff.1 hc).1
      simp only [List.getElem?_take, List.getElem?_drop, if_pos hlt] at hy
      rw [byte_back (List.all_eq_true.1 hb z (List.mem_of_getElem? hz'))]
      rw [addr_add]
      simp only [World.cell?, h1, Option.isSome_none]
      simpa [Nat.add_assoc] using hy
  · rename_i s; exact absurd rfl (hs s)
  · cases hcs
/-- a block that a call has made, wherever it lies. -/
theorem HR.newAt (h : HR P w0 ρ H w) {x : ABlk} {l : Loc} (hB : Go.RowKit.Below w.heap.size w w')
    (hl : w.heap.size ≤ l.blk) (hx : BR P (ρ.upd H.next l) w' l x) : ρ.le (ρ.upd H.next l) ∧ HR P w0 (ρ.upd H.next l) (H.new x) w' := by
  have hn : ρ H.next = none := h.dom _ (Nat.le_refl _)
  have hle : ρ.le (ρ.upd H.next l) := Ren.le_upd hn
  refine ⟨hle, ?_⟩
  have hold : ∀ i, i < w.heap.size → w'.heap[i]? = w.heap[i]? := by
    intro i hi; exact hB.block i hi
  refine ⟨?_, ?_, ?_, ?_, ?_, ?_, ?_, ?_, ?_, ?_⟩
  · intro b hb; rw [Ren.upd_ne (by simp at hb; omega)]; exact h.dom b (by simp at hb; omega)
  · intro b l' x' hb hx'
    rw [AH.get_new] at hx'
    by_cases e : b = H.next
    · subst e; simp at hb hx'; subst hb; subst hx'; exact hx
    · rw [if_neg e] at hx'; rw [Ren.upd_ne e] at hb
      have := h.lv b l' x' hb hx'
      by_cases hlv : x'.live = true
      · exact (this.mono hle).world (hold _ (this.blk_lt hlv))
      · cases x' <;> simp [ABlk.live] at hlv; trivial
  · intro b1 b2 l1 l2 x1 x2 h1 h2 g1 g2 r1 r2 e
    rw [AH.get_new] at g1 g2
    by_cases e1 : b1 = H.next
    · by_cases e2 : b2 = H.next
      · rw [e1, e2]
      · exfalso
        subst e1; simp at h1; subst h1
        rw [if_neg e2] at g2; rw [Ren.upd_ne e2] at h2
        have := (h.lv b2 l2 x2 h2 g2).blk_lt r2
        omega
    · rw [if_neg e1] at g1; rw [Ren.upd_ne e1] at h1
      by_cases e2 : b2 = H.next
      · exfalso
        subst e2; simp at h2; subst h2
        have := (h.lv b1 l1 x1 h1 g1).blk_lt (ABlk.live_of_rw r1)
        omega
      · rw [if_neg e2] at g2; rw [Ren.upd_ne e2] at h2
        exact h.inj b1 b2 l1 l2 x1 x2 h1 h2 g1 g2 r1 r2 e
  · intro b1 l1 x1 h1 g1 r1
    rw [AH.get_new] at g1
    by_cases e1 : b1 = H.next
    · subst e1; simp at h1; subst h1; exact fun hf => absurd (w0.lt _ hf) (Nat.not_lt.2 (Nat.le_trans h.size hl))
    · rw [if_neg e1] at g1; rw [Ren.upd_ne e1] at h1; exact h.ge b1 l1 x1 h1 g1 r1
  · intro b hb; rw [hold b (Nat.lt_of_lt_of_le (w0.lt _ hb) h.size)]; exact h.old b hb
  · exact Nat.le_trans h.size hB.size
  · intro b1 l1 x1 h1 g1 r1
    rw [AH.get_new] at g1
    by_cases e1 : b1 = H.next
    · subst e1; simp at h1; subst h1; exact fun hf => absurd hf (Nat.not_lt.2 (Nat.le_trans h.size hl))
    · rw [if_neg e1] at g1; rw [Ren.upd_ne e1] at h1; exact h.vis b1 l1 x1 h1 g1 r1
  · intro b1 x1 g1 r1
    rw [AH.get_new] at g1
    by_cases e1 : b1 = H.next
    · subst e1; exact ⟨l, Ren.upd_same _ _ _⟩
    · rw [if_neg e1] at g1
      obtain ⟨l1, q⟩ := h.tot b1 x1 g1 r1
      exact ⟨l1, hle _ _ q⟩
  · intro g hg; obtain ⟨m, u, e⟩ := h.glob g hg; exact ⟨m, u, hle _ _ e⟩
  · exact ⟨hB.os.trans h.env.1, hB.output.trans h.env.2.1, hB.tape.trans h.env.2.2⟩


def isStr : Value → Bool
  | .string _ => true
  | _ => false
noncomputable def partsOf (H : AH) : List Value → Option (List (List UInt8))
  | [] => some []
  | v :: r => match isStr v, aBytes H v with
    | false, some ns => match ns.all inByte, partsOf H r with
      | true, some ls => some (u8s ns :: ls)
      | _, _ => none
    | _, _ => none
theorem partsOf_ok (h : HR P w0 ρ H w) : ∀ {vs vs' : List Value} {ls : List (List UInt8)}, VRL ρ vs vs' → partsOf H vs = some ls → vs'.length = ls.length ∧ ∀ (i : Nat) v l, vs'[i]? = some v → ls[i]? = some l → Lib.HoldsBytes w v l
  | [], _, _, hv, hr => by
    simp only [VRL] at hv; subst hv
    cases hr
    exact ⟨rfl, fun i v l h1 => by simp at h1⟩
  | v :: vs, _, _, hv, hr => by
    simp only [VRL] at hv
    obtain ⟨y, ys, q1, q2, rfl⟩ := hv
    unfold partsOf at hr
    split at hr <;> try cases hr
    rename_i ns hs hn
    split at hr <;> cases hr
    rename_i ls hb hl
    obtain ⟨p1, p2⟩ := partsOf_ok h q2 hl
    refine ⟨by simp [p1], fun i v' l h1 h2 => ?_⟩
    cases i with
    | zero =>
      simp only [List.getElem?_cons_zero, Option.some.injEq] at h1 h2
      subst h1; subst h2
      exact aBytes_holds h q1 hn (fun s e => by rw [e] at hs; cases hs) hb
    | succ i => exact p2 i v' l (by simpa using h1) (by simpa using h2)
def bytesV (l : List UInt8) : List Value := l.map fun b => .int .u8 (b.toNat : Int)
/-- what bytes.Join comes to: a new row of bytes that nobody writes to. -/
noncomputable def joinOf (H : AH) (bt : TypeId) (args : List Value) : Option (Value × AH) :=
  match args with
  | [.slice (some a) n _, sep] => match H.get a.block with
    | some (.arr c _ _) => match partsOf H ((c.drop a.off).take n), partsOf H [sep] with
      | some ls, some [sp] =>
        if 2 ≤ n ∧ n ≤ 140737488355328 ∧ a.off + n ≤ c.length ∧ 1 ≤ (Lib.join ls sp).length ∧ Lib.lens ls + sp.length * (n - 1) ≤ 140737488355328 then
          some (.slice (some ⟨H.next, 0, none⟩) (Lib.join ls sp).length 0, H.new (.arr (bytesV (Lib.join ls sp)) bt true)) else none
      | _, _ => none
    | _ => none
  | _ => none
def SpecOf (idx join : FuncId) (bt : TypeId) : Fns := fun c H R => match c with
  | .fn f args => (f = idx ∧ ∃ s u, args = [.string s, .string u] ∧ s.size < 4294967281 ∧ R (.ret (.int .i64 (Lib.index s.data.toList u.data.toList))) H) ∨
      (f = join ∧ ∃ r, joinOf H bt args = some r ∧ R (.ret r.1) r.2)
  | _ => False
theorem SpecOf_mono (idx join : FuncId) (bt : TypeId) : (SpecOf idx join bt).Mono := by
  intro c H R R' hR hs
  cases c with
  | fn f args =>
    rcases hs with ⟨h1, s, u, h2, h3, h4⟩ | ⟨h1, r, h2, h3⟩
    · exact .inl ⟨h1, s, u, h2, h3, hR _ _ h4⟩
    · exact .inr ⟨h1, r, h2, hR _ _ h3⟩
  | _ => exact hs
/-- the variable holds an int. -/
def IntAt (o : Option Obj) : Prop := ∃ m e fz, o = some (.cells #[.int .i64 m] e fz)
theorem join_sound {ρ2 : Go.Shelf.Ren} (L2 : Go.Proofs.SlLaysJ.n14 P ρ2) {bt : TypeId} {ti : TypeInfo} (hbt : P.info? bt = some ti) (hsz : ti.size = 1)
    (h : HR P w0 ρ H w) {args args' : List Value} (ha : VRL ρ args args') {r : Value × AH} (hr : joinOf H bt args = some r) {R : Ret → AH → Prop} (hR : R (.ret r.1) r.2) :
    CallsIn Fence.wide 0 P (ρ2.f 14) ⟨args'⟩ w (EndR P w0 ρ R) := by
  unfold joinOf at hr
  split at hr <;> try cases hr
  rename_i a n k sep
  split at hr <;> try cases hr
  rename_i c e ro hg
  split at hr <;> try cases hr
  rename_i ls sp hls hsp
  split at hr <;> cases hr
  rename_i hc
  obtain ⟨c1, c2, c3, c4, c5⟩ := hc
  simp only [VRL] at ha
  obtain ⟨y1, _, q1, ⟨y2, _, q2, rfl, rfl⟩, rfl⟩ := ha
  obtain ⟨b, cp, hsl, rfl⟩ := q1.slice_inv
  have hcap : n ≤ cp := by
    obtain ⟨l, _, _, _, _, g1, g2⟩ := hsl
    by_cases hk : k = 0
    · exact (g1 hk).1
    · exact (g2 hk).2.1
  obtain ⟨l, hl, rfl⟩ := hsl.addr (by omega)
  obtain ⟨cs, e', fz, i, h1, h2, h3, h4, h5, h6⟩ := h.arr hl hg
  have hrow := (h5.drop a.off).take n
  rw [List.drop_take, List.drop_drop, List.take_take, Nat.min_eq_left (by omega)] at hrow
  obtain ⟨p1, p2⟩ := partsOf_ok h hrow hls
  have hlen : ls.length = n := by
    rw [← p1]
    have := hrow.length
    simp only [List.length_take, List.length_drop] at this ⊢
    omega
  have hP : Lib.PartsAt w ⟨l.blk, l.base + a.off, none⟩ ((cs.toList.drop (l.base + a.off)).take n) ls := by
    refine ⟨p1, fun i v hv => ?_, p2⟩
    rw [addr_add]
    simp only [World.cell?, h1, Option.isSome_none]
    have hi : i < n := by
      have := (List.getElem?_eq_some_iff.1 hv).1
      simp only [List.length_take] at this
      omega
    simp only [List.getElem?_take, if_pos hi, List.getElem?_drop, Array.getElem?_toList] at hv
    simpa using hv
  obtain ⟨_, p4⟩ := partsOf_ok h (vs := [sep]) (vs' := [y2]) (by simp only [VRL]; exact ⟨y2, [], q2, rfl, rfl⟩) hsp
  have hS := p4 0 y2 sp rfl rfl
  refine CallsIn.mono (callsIn_wide.2 (Go.Proofs.Any.bytes_Join_many L2 _ _ n cp _ ls y2 sp w hlen c1 hP hcap hS c2 c5)) ?_
  rintro e1 w' ⟨v', rfl, ⟨g, cap, zs, rfl, f1, f2, f3, f4, f5, f6, f7, f8⟩, hB⟩
  have hzl : ∀ j : Nat, j < zs.length → w'.cell? ⟨g, j, none⟩ = some (.int .u8 (zs.getD j 0)) := fun j hj => f7 j (by omega)
  obtain ⟨cs', et, fz', g1⟩ : ∃ cs' et fz', w'.heap[g]? = some (.cells cs' et fz') := by
    have := hzl 0 (by omega)
    simp only [World.cell?] at this
    split at this
    · rename_i c0 e0 f0 hh; exact ⟨_, _, _, hh⟩
    · cases this
  have g2 : ∀ j : Nat, j < zs.length → cs'[j]? = some (.int .u8 (zs.getD j 0)) := fun j hj => by
    have := hzl j hj
    simpa [World.cell?, g1] using this
  have g3 : cap ≤ cs'.size := by
    have := (Array.getElem?_eq_some_iff.1 (g2 (cap - 1) (by omega))).1
    omega
  have hrel : VRL ρ (bytesV (Lib.join ls sp)) ((cs'.toList.drop 0).take (bytesV (Lib.join ls sp)).length) := by
    have : (cs'.toList.drop 0).take (bytesV (Lib.join ls sp)).length = bytesV (Lib.join ls sp) := by
      have hbl : (bytesV (Lib.join ls sp)).length = (Lib.join ls sp).length := by simp [bytesV]
      rw [hbl, List.drop_zero]
      apply List.ext_getElem?
      intro j
      by_cases hj : j < (Lib.join ls sp).length
      · rw [List.getElem?_take, if_pos hj, Array.getElem?_toList, g2 j (by omega)]
        have hz : zs[j]? = some (zs.getD j 0) := by
          rw [List.getD_eq_getElem?_getD, List.getElem?_eq_getElem (by omega)]; rfl
        have hb := congrArg (·[j]?) f6
        simp only [Lib.bytesOf, List.getElem?_map, List.getElem?_take, if_pos hj, hz, Option.map_some] at hb
        simp only [bytesV, List.getElem?_map, ← hb, Option.map_some]
        have hr := f5 _ (List.mem_of_getElem? hz)
        rw [byte_back (by simp only [inByte, Bool.and_eq_true, decide_eq_true_eq]; exact hr)]
      · rw [List.getElem?_eq_none (by simp; omega), List.getElem?_eq_none (by omega)]
    rw [this]
    exact VRL.of_closed ρ (by
      generalize Lib.join ls sp = l
      unfold bytesV
      induction l with
      | nil => rfl
      | cons b l ih => simp only [List.map_cons, closedL, closed, ih, Bool.and_self])
  obtain ⟨t1, t2⟩ := h.newAt (x := .arr (bytesV (Lib.join ls sp)) bt true) (l := ⟨g, 0, cs'.size, ti.size⟩) hB f1 ⟨cs', et, fz', ti, g1, rfl, hbt, rfl, hrel.mono (Ren.le_upd (h.dom _ (Nat.le_refl _))), fun q => by cases q⟩
  refine ⟨.ret _, _, _, t1, t2, ⟨_, ?_, rfl⟩, hR⟩
  simp only [VR]
  refine ⟨_, cap, ⟨⟨g, 0, cs'.size, ti.size⟩, Ren.upd_same _ _ _, rfl, rfl, rfl, fun _ => ⟨f2, ?_, fun _ => rfl⟩, fun q => absurd rfl q⟩, rfl⟩
  show 0 + cap * ti.size ≤ cs'.size
  rw [hsz]; omega
/-- **the two rows hold of the model.** -/
theorem SpecOf_sound {ρ1 ρ2 : Go.Shelf.Ren} (L1 : Go.Proofs.Lays.n219 P ρ1) (L2 : Go.Proofs.SlLaysJ.n14 P ρ2) {bt : TypeId} {ti : TypeInfo} (hbt : P.info? bt = some ti) (hsz : ti.size = 1) :
    (SpecOf (ρ1.f 219) (ρ2.f 14) bt).le (AllSound P (Holds (ρ1.g 1) IntAt)) := by
  intro c H R hs w0 hq
  cases c with
  | fn f args =>
    intro ρ w args' h ha
    rcases hs with ⟨rfl, s, u, rfl, h3, h4⟩ | ⟨rfl, r, h2, h3⟩
    · obtain ⟨m, e, fz, hm⟩ := hq.2
      rw [← h.old _ hq.1] at hm
      simp only [VRL, VR] at ha
      obtain ⟨_, _, rfl, ⟨_, _, rfl, rfl, rfl⟩, rfl⟩ := ha
      refine CallsIn.mono (callsIn_wide.2 (Go.Proofs.Any.stringslite_Index L1 s u m w h3 (by simp [World.cell?, hm]))) ?_
      rintro e1 w' ⟨rfl, rfl⟩
      exact ⟨.ret _, H, ρ, Ren.le_refl _, h, ⟨_, by simp only [VR], rfl⟩, h4⟩
    · exact join_sound L2 hbt hsz h ha h2 h3
  | _ => exact hs.elim
noncomputable def ovOf (idx join : FuncId) (bt : TypeId) (f : FuncId) (args : List Value) (H : AH) : Option RetO :=
  match Nat.beq f idx with
  | true => match args with
    | [.string s, .string u] => if s.size < 4294967281 then some (.mk (.ret (.int .i64 (Lib.index s.data.toList u.data.toList))) H) else some (.bad "index")
    | _ => some (.bad "index")
  | false => match Nat.beq f join with
    | true => match joinOf H bt args with
      | some r => some (.mk (.ret r.1) r.2)
      | none => some (.bad "join")
    | false => none
theorem ovOf_ok {idx join : FuncId} {bt : TypeId} : ∀ f args H r H', ovOf idx join bt f args H = some (.mk r H') → ∀ R : Ret → AH → Prop, R r H' → W P (SpecOf idx join bt) (.fn f args) H R := by
  intro f args H r H' h R hR
  unfold ovOf at h
  refine W_fold (SpecOf_mono idx join bt) (.inl ?_)
  split at h
  · rename_i hf
    split at h <;> try cases h
    split at h <;> cases h
    rename_i hs
    exact .inl ⟨Nat.eq_of_beq_eq_true hf, _, _, rfl, hs, hR⟩
  · split at h
    · rename_i hf
      split at h <;> cases h
      rename_i r hr
      exact .inr ⟨Nat.eq_of_beq_eq_true hf, _, hr, hR⟩
    · cases h
end Go.Mt
/- What is reckoned once serves again: calls looked at by themselves; the closed call at the end. -/
namespace Go.Mt
variable {P : Program}
def AllOk (P : Program) (Spec : Fns) : List Memo → Prop
  | [] => True
  | m :: M => MemoOk P Spec m ∧ AllOk P Spec M
theorem AllOk.mem {Spec : Fns} : ∀ {M : List Memo}, AllOk P Spec M → ∀ m ∈ M, MemoOk P Spec m
  | m :: M, h, x, hx => by
    rcases List.mem_cons.1 hx with rfl | hx
    · exact h.1
    · exact AllOk.mem h.2 x hx
noncomputable def cfgOf (idx join : FuncId) (bt : TypeId) (mode : FuncId → Nat) (G : Nat) (M : List Memo) : Cfg := ⟨ovOf idx join bt, mode, G, M⟩
variable {idx join : FuncId} {bt : TypeId} {mode : FuncId → Nat} {G : Nat} {M : List Memo}
theorem cfgOf_ok (hG : P.globals.size = G) (hM : AllOk P (SpecOf idx join bt) M) : CfgOk P (SpecOf idx join bt) (cfgOf idx join bt mode G M) := ⟨ovOf_ok, hG, hM.mem⟩
theorem memo_ok (hG : P.globals.size = G) (hM : AllOk P (SpecOf idx join bt) M) {m : Memo} (md : Nat) (hn : (Nat.ble G m.n0 && m.ps.all fun p => Nat.blt p.1 m.n0) = true)
    (h : evRes P (cfgOf idx join bt mode G M) (evF P (cfgOf idx join bt mode G M) 5000) 5000 md m.f m.args m.n0 m.ps = some m.r) : MemoOk P (SpecOf idx join bt) m := by
  rw [Bool.and_eq_true, List.all_eq_true] at hn
  refine evRes_ok (SpecOf_mono idx join bt) (cfgOf_ok hG hM) (evF_ok (SpecOf_mono idx join bt) (cfgOf_ok hG hM) 5000) (Nat.le_of_ble_eq_true hn.1) (fun b hb => ?_) h
  obtain ⟨p, hp, rfl⟩ := List.mem_map.1 hb
  exact Nat.le_of_ble_eq_true (hn.2 p hp)
def isTrue : RetO → Bool
  | .mk (.ret (.bool true)) _ => true
  | _ => false
theorem isTrue_ok {r : RetO} (h : isTrue r = true) : ∃ H, r = .mk (.ret (.bool true)) H := by
  unfold isTrue at h
  split at h
  · exact ⟨_, rfl⟩
  · cases h
theorem root_ok (hG : P.globals.size = G) (hM : AllOk P (SpecOf idx join bt) M) {f : FuncId} {H : AH} (h : isTrue (evF P (cfgOf idx join bt mode G M) 5000 (.fn f []) H) = true) :
    W P (SpecOf idx join bt) (.fn f []) H fun a _ => a = .ret (.bool true) ∧ True := by
  obtain ⟨H', h⟩ := isTrue_ok h
  exact evF_ok (SpecOf_mono idx join bt) (cfgOf_ok hG hM) 5000 _ _ _ _ h _ ⟨rfl, trivial⟩
end Go.Mt
