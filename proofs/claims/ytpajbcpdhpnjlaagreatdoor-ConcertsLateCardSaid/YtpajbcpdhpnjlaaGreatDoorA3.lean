import Derived.Test.YtpajbcpdhpnjlaaGreatDoorA2
import Derived.IntWalk
import Derived.Lib.Bytealg
import Derived.Lib.SlTrimSet
import Derived.Test.YtpajbcpdhpnjlaaGreatDoorProg
set_option linter.unusedSimpArgs false
set_option linter.unusedVariables false
namespace Go.Ev
open Go

/-! ### what is to be done, as a stack -/
inductive It where
  | code (b : Nat) (c : Code)
  | blk (i : Nat)
  | lp (b : Nat) (c : Code)

def nrmB (C : Cfg) (pre b : Nat) (fr : Fr) : Option Fr := norm pre (loopCfg C.loops b).1 (loopCfg C.loops b).2 fr

/-- One step, with what follows. -/
noncomputable def stepF (E : Env) (C : Cfg) (pre : Nat) (F : Ex → Fr → Option Fr) (X : List It → Ex → Fr → Option Fr) : List It → Ex → Fr → Option Fr
  | [], e, fr => F e fr
  | .code b c :: k, .normal, fr => match c with
    | .skip => X k .normal fr
    | .region id ops draw => cond draw (runOpsT E C ops.toList ops.toList [] (preF C.cons id fr) (X k .normal)) (runOps E C ops.toList ops.toList fr (X k .normal))
    | .seq x y => X (.code b x :: .code b y :: k) .normal fr
    | .cond c x y => match c with
      | .tmp t => match fr.slot t with
        | .dat .bool q => cond q (X (.code b x :: k) .normal (fr.setS t (dB true))) (X (.code b y :: k) .normal (fr.setS t (dB false)))
        | .ub => both (X (.code b x :: k) .normal (fr.setS t (dB true))) (X (.code b y :: k) .normal (fr.setS t (dB false)))
        | _ => none
      | .const (.bool q) => cond q (X (.code b x :: k) .normal fr) (X (.code b y :: k) .normal fr)
      | _ => none
    | .block i x => X (.code i x :: .blk i :: k) .normal fr
    | .loop x => X (.lp b x :: k) .normal fr
    | .exit i => X k (.exit i) fr
    | .ret => X k .ret fr
    | _ => none
  | .code _ _ :: k, e, fr => X k e fr
  | .blk i :: k, .exit j, fr => cond (Nat.beq j i) (X k .normal fr) (X k (.exit j) fr)
  | .blk _ :: k, e, fr => X k e fr
  | .lp b x :: k, .normal, fr => (nrmB C pre b fr).bind fun fr1 => X (.code b x :: .lp b x :: k) .normal fr1
  | .lp _ _ :: k, e, fr => X k e fr

noncomputable def ex (E : Env) (C : Cfg) (pre : Nat) (F : Ex → Fr → Option Fr) : Nat → List It → Ex → Fr → Option Fr
  | 0 => fun _ _ _ => none
  | n + 1 => stepF E C pre F (ex E C pre F n)

theorem runOps_bind {E : Env} {C : Cfg} {ops : List Oper} {ρ : Type} : ∀ (l : List Oper) (fr : Fr), ∃ o : Option Fr, ∀ K : Fr → Option ρ, runOps E C ops l fr K = o.bind K
  | [], fr => ⟨some fr, fun K => rfl⟩
  | o :: l, fr => by
    cases h : (gop E C ops o).go fr with
    | none => exact ⟨none, fun K => by simp only [runOps]; rw [Pr.exec_go, h]; rfl⟩
    | some x =>
      obtain ⟨p, hp⟩ := runOps_bind (E := E) (C := C) (ops := ops) (ρ := ρ) l x.2
      exact ⟨p, fun K => by simp only [runOps]; rw [Pr.exec_go, h]; simp only [Option.bind_some]; exact hp K⟩

theorem runOpsT_bind {E : Env} {C : Cfg} {ops : List Oper} {ρ : Type} : ∀ (l : List Oper) (ft : List (List Nat × List Nat)) (fr : Fr), ∃ o : Option Fr, ∀ K : Fr → Option ρ, runOpsT E C ops l ft fr K = o.bind K
  | [], ft, fr => by
    by_cases h : (indepAll (ancs ops []) ft && edgesBack 0 ops) = true
    · exact ⟨some fr, fun K => by simp only [runOpsT]; rw [if_pos h]; rfl⟩
    · exact ⟨none, fun K => by simp only [runOpsT]; rw [if_neg h]; rfl⟩
  | o :: l, ft, fr => by
    cases h : (gop E C ops o).goT fr [] [] with
    | none => exact ⟨none, fun K => by simp only [runOpsT]; rw [execT_goT, h]; rfl⟩
    | some x =>
      obtain ⟨p, hp⟩ := runOpsT_bind (E := E) (C := C) (ops := ops) (ρ := ρ) l (ft ++ [(x.2.2.1, cond o.guard.isSome x.2.2.2.dropLast x.2.2.2)]) x.2.1
      exact ⟨p, fun K => by simp only [runOpsT]; rw [execT_goT, h]; simp only [Option.bind_some]; exact hp K⟩

/-- A step asks what follows once at most. -/
theorem stepF_bind (E : Env) (C : Cfg) (pre : Nat) (F : Ex → Fr → Option Fr) (k : List It) (e : Ex) (fr : Fr) :
    (∃ o, ∀ X, stepF E C pre F X k e fr = o) ∨ (∃ k' e' fr', ∀ X, stepF E C pre F X k e fr = X k' e' fr') ∨
      ∃ k1 e1 f1 k2 e2 f2, ∀ X, stepF E C pre F X k e fr = both (X k1 e1 f1) (X k2 e2 f2) := by
  have hb : ∀ (o : Option Fr) (k' : List It), (∃ o', ∀ X : List It → Ex → Fr → Option Fr, o.bind (X k' .normal) = o') ∨ (∃ k'' e' fr', ∀ X : List It → Ex → Fr → Option Fr, o.bind (X k' .normal) = X k'' e' fr') := by
    intro o k'
    cases o with
    | none => exact .inl ⟨none, fun _ => rfl⟩
    | some v => exact .inr ⟨k', .normal, v, fun _ => rfl⟩
  match k, e with
  | [], e => exact .inl ⟨F e fr, fun _ => rfl⟩
  | .code b c :: k, .exit i => exact .inr (.inl ⟨k, .exit i, fr, fun _ => rfl⟩)
  | .code b c :: k, .ret => exact .inr (.inl ⟨k, .ret, fr, fun _ => rfl⟩)
  | .blk i :: k, .normal => exact .inr (.inl ⟨k, .normal, fr, fun _ => rfl⟩)
  | .blk i :: k, .ret => exact .inr (.inl ⟨k, .ret, fr, fun _ => rfl⟩)
  | .blk i :: k, .exit j =>
    cases h : Nat.beq j i with
    | true => exact .inr (.inl ⟨k, .normal, fr, fun X => by simp only [stepF, h, cond_true]⟩)
    | false => exact .inr (.inl ⟨k, .exit j, fr, fun X => by simp only [stepF, h, cond_false]⟩)
  | .lp b x :: k, .exit i => exact .inr (.inl ⟨k, .exit i, fr, fun _ => rfl⟩)
  | .lp b x :: k, .ret => exact .inr (.inl ⟨k, .ret, fr, fun _ => rfl⟩)
  | .lp b x :: k, .normal =>
    rcases hb (nrmB C pre b fr) (.code b x :: .lp b x :: k) with ⟨o, h⟩ | ⟨k'', e', fr', h⟩
    · exact .inl ⟨o, fun X => h X⟩
    · exact .inr (.inl ⟨k'', e', fr', fun X => h X⟩)
  | .code b c :: k, .normal =>
    cases c with
    | skip => exact .inr (.inl ⟨k, .normal, fr, fun _ => rfl⟩)
    | region id ops draw =>
      cases draw with
      | true =>
        obtain ⟨o, ho⟩ := runOpsT_bind (E := E) (C := C) (ops := ops.toList) (ρ := Fr) ops.toList [] (preF C.cons id fr)
        rcases hb o k with ⟨o', h⟩ | ⟨k'', e', fr', h⟩
        · exact .inl ⟨o', fun X => by simp only [stepF, cond_true]; rw [ho]; exact h X⟩
        · exact .inr (.inl ⟨k'', e', fr', fun X => by simp only [stepF, cond_true]; rw [ho]; exact h X⟩)
      | false =>
        obtain ⟨o, ho⟩ := runOps_bind (E := E) (C := C) (ops := ops.toList) (ρ := Fr) ops.toList fr
        rcases hb o k with ⟨o', h⟩ | ⟨k'', e', fr', h⟩
        · exact .inl ⟨o', fun X => by simp only [stepF, cond_false]; rw [ho]; exact h X⟩
        · exact .inr (.inl ⟨k'', e', fr', fun X => by simp only [stepF, cond_false]; rw [ho]; exact h X⟩)
    | seq x y => exact .inr (.inl ⟨_, _, _, fun _ => rfl⟩)
    | cond c x y =>
      simp only [stepF]
      split
      · split
        · rename_i q _
          cases q
          · exact .inr (.inl ⟨_, _, _, fun _ => rfl⟩)
          · exact .inr (.inl ⟨_, _, _, fun _ => rfl⟩)
        · exact .inr (.inr ⟨_, _, _, _, _, _, fun _ => rfl⟩)
        · exact .inl ⟨none, fun _ => rfl⟩
      · rename_i q
        cases q
        · exact .inr (.inl ⟨_, _, _, fun _ => rfl⟩)
        · exact .inr (.inl ⟨_, _, _, fun _ => rfl⟩)
      · exact .inl ⟨none, fun _ => rfl⟩
    | block i x => exact .inr (.inl ⟨_, _, _, fun _ => rfl⟩)
    | loop x => exact .inr (.inl ⟨_, _, _, fun _ => rfl⟩)
    | exit i => exact .inr (.inl ⟨_, _, _, fun _ => rfl⟩)
    | ret => exact .inr (.inl ⟨_, _, _, fun _ => rfl⟩)
    | rangeFunc _ _ _ _ => exact .inl ⟨none, fun _ => rfl⟩
    | scope _ => exact .inl ⟨none, fun _ => rfl⟩
    | label _ => exact .inl ⟨none, fun _ => rfl⟩
    | goto _ => exact .inl ⟨none, fun _ => rfl⟩
    | refuse _ => exact .inl ⟨none, fun _ => rfl⟩

theorem ex_mono {E : Env} {C : Cfg} {pre : Nat} {F : Ex → Fr → Option Fr} : ∀ (n : Nat) {k : List It} {e : Ex} {fr r : Fr}, ex E C pre F n k e fr = some r → ex E C pre F (n + 1) k e fr = some r
  | 0, k, e, fr, r, h => by cases h
  | n + 1, k, e, fr, r, h => by
    have h1 : stepF E C pre F (ex E C pre F n) k e fr = some r := h
    show stepF E C pre F (ex E C pre F (n + 1)) k e fr = some r
    rcases stepF_bind E C pre F k e fr with ⟨o, ho⟩ | ⟨k', e', fr', ho⟩ | ⟨k1, e1, f1, k2, e2, f2, ho⟩
    · rw [ho] at h1 ⊢; exact h1
    · rw [ho] at h1 ⊢; exact ex_mono n h1
    · rw [ho] at h1 ⊢
      obtain ⟨g1, g2⟩ := both_some.1 h1
      exact both_some.2 ⟨ex_mono n g1, ex_mono n g2⟩

theorem ex_le {E : Env} {C : Cfg} {pre : Nat} {F : Ex → Fr → Option Fr} {n m : Nat} (h : n ≤ m) {k : List It} {e : Ex} {fr r : Fr} (hx : ex E C pre F n k e fr = some r) : ex E C pre F m k e fr = some r := by
  obtain ⟨d, rfl⟩ := Nat.le.dest h
  clear h
  induction d with
  | zero => exact hx
  | succ d ih => exact ex_mono _ ih

open Classical in
/-- The whole run. -/
noncomputable def T (E : Env) (C : Cfg) (pre : Nat) (F : Ex → Fr → Option Fr) (k : List It) (e : Ex) (fr : Fr) : Option Fr :=
  if h : ∃ n r, ex E C pre F n k e fr = some r then some h.choose_spec.choose else none

theorem T_iff {E : Env} {C : Cfg} {pre : Nat} {F : Ex → Fr → Option Fr} {k : List It} {e : Ex} {fr r : Fr} : T E C pre F k e fr = some r ↔ ∃ n, ex E C pre F n k e fr = some r := by
  unfold T
  constructor
  · intro h
    split at h
    · rename_i hx
      have := hx.choose_spec.choose_spec
      cases h
      exact ⟨_, this⟩
    · cases h
  · rintro ⟨n, hn⟩
    have hx : ∃ n r, ex E C pre F n k e fr = some r := ⟨n, r, hn⟩
    rw [dif_pos hx]
    have h1 := hx.choose_spec.choose_spec
    have h2 := ex_le (Nat.le_max_left hx.choose n) h1
    have h3 := ex_le (Nat.le_max_right hx.choose n) hn
    rw [h2] at h3
    exact h3

theorem T_step {E : Env} {C : Cfg} {pre : Nat} {F : Ex → Fr → Option Fr} (k : List It) (e : Ex) (fr : Fr) : T E C pre F k e fr = stepF E C pre F (T E C pre F) k e fr := by
  have key : ∀ r, T E C pre F k e fr = some r ↔ stepF E C pre F (T E C pre F) k e fr = some r := by
    intro r
    rw [T_iff]
    rcases stepF_bind E C pre F k e fr with ⟨o, ho⟩ | ⟨k', e', fr', ho⟩ | ⟨k1, e1, f1, k2, e2, f2, ho⟩
    · rw [ho]
      constructor
      · rintro ⟨n, hn⟩
        cases n with
        | zero => cases hn
        | succ n => have : stepF E C pre F (ex E C pre F n) k e fr = some r := hn; rwa [ho] at this
      · intro h
        exact ⟨1, by show stepF E C pre F (ex E C pre F 0) k e fr = some r; rw [ho]; exact h⟩
    · rw [ho, T_iff]
      constructor
      · rintro ⟨n, hn⟩
        cases n with
        | zero => cases hn
        | succ n => have : stepF E C pre F (ex E C pre F n) k e fr = some r := hn; rw [ho] at this; exact ⟨n, this⟩
      · rintro ⟨n, hn⟩
        exact ⟨n + 1, by show stepF E C pre F (ex E C pre F n) k e fr = some r; rw [ho]; exact hn⟩
    · rw [ho, both_some, T_iff, T_iff]
      constructor
      · rintro ⟨n, hn⟩
        cases n with
        | zero => cases hn
        | succ n =>
          have : stepF E C pre F (ex E C pre F n) k e fr = some r := hn
          rw [ho] at this
          obtain ⟨g1, g2⟩ := both_some.1 this
          exact ⟨⟨n, g1⟩, ⟨n, g2⟩⟩
      · rintro ⟨⟨n, hn⟩, ⟨m, hm⟩⟩
        refine ⟨max n m + 1, ?_⟩
        show stepF E C pre F (ex E C pre F (max n m)) k e fr = some r
        rw [ho]
        exact both_some.2 ⟨ex_le (Nat.le_max_left n m) hn, ex_le (Nat.le_max_right n m) hm⟩
  cases h : stepF E C pre F (T E C pre F) k e fr with
  | some r => exact (key r).2 h
  | none =>
    cases h2 : T E C pre F k e fr with
    | none => rfl
    | some r => rw [(key r).1 h2] at h; cases h

/-! ### frames made plain before what follows -/
def fcV (v : FV) {ρ : Type} (k : FV → ρ) : ρ := match v with
  | .undef => k .undef
  | .skp => k .skp
  | .dat t x => k (.dat t x)
  | .nil0 => k .nil0
  | .nilm => k .nilm
  | .nilp => k .nilp
  | .nilf => k .nilf
  | .ub => k .ub
  | .slc a => k (.slc a)
  | .ptr a b => k (.ptr a b)
  | .ep a b c => k (.ep a b c)
  | .fp t x => k (.fp t x)
  | .mp a => k (.mp a)
  | .agg l => k (.agg l)
  | .tup l => k (.tup l)
  | .clos f l => k (.clos f l)

def fcL {ρ : Type} : List FV → (List FV → ρ) → ρ
  | [], k => k []
  | a :: l, k => fcV a fun a => fcL l fun l => k (a :: l)

def fcR (r : Reg) {ρ : Type} (k : Reg → ρ) : ρ := match r with
  | .abs => k .abs
  | .dead => k .dead
  | .box l => fcL l fun l => k (.box l)
  | .arr t x => k (.arr t x)
  | .frz t x => k (.frz t x)
  | .map a b x => k (.map a b x)

def fcRs {ρ : Type} : List (Nat × Reg) → (List (Nat × Reg) → ρ) → ρ
  | [], k => k []
  | (i, r) :: l, k => fcR r fun r => fcRs l fun l => k ((i, r) :: l)

def fcF (fr : Fr) {ρ : Type} (k : Fr → ρ) : ρ := match fr with
  | ⟨s, r⟩ => fcL s fun s => fcRs r fun r => k ⟨s, r⟩

theorem fcV_eq (v : FV) {ρ : Type} (k : FV → ρ) : fcV v k = k v := by cases v <;> rfl
theorem fcL_eq {ρ : Type} : ∀ (l : List FV) (k : List FV → ρ), fcL l k = k l
  | [], k => rfl
  | a :: l, k => by simp only [fcL, fcV_eq, fcL_eq l]
theorem fcR_eq (r : Reg) {ρ : Type} (k : Reg → ρ) : fcR r k = k r := by cases r <;> simp only [fcR, fcL_eq]
theorem fcRs_eq {ρ : Type} : ∀ (l : List (Nat × Reg)) (k : List (Nat × Reg) → ρ), fcRs l k = k l
  | [], k => rfl
  | (i, r) :: l, k => by simp only [fcRs, fcR_eq, fcRs_eq l]
theorem fcF_eq (fr : Fr) {ρ : Type} (k : Fr → ρ) : fcF fr k = k fr := by cases fr; simp only [fcF, fcL_eq, fcRs_eq]

def runOpsF (E : Env) (C : Cfg) (ops : List Oper) {ρ : Type} : List Oper → Fr → (Fr → Option ρ) → Option ρ
  | [], fr, K => K fr
  | o :: rest, fr, K => (gop E C ops o).exec fr fun _ fr' => fcF fr' fun fr' => runOpsF E C ops rest fr' K

def runOpsTF (E : Env) (C : Cfg) (ops : List Oper) {ρ : Type} : List Oper → List (List Nat × List Nat) → Fr → (Fr → Option ρ) → Option ρ
  | [], ft, fr, K => cond (indepF ops ft) (cond (edgesBack 0 ops) (K fr) none) none
  | o :: rest, ft, fr, K => (gop E C ops o).execT fr [] [] fun _ fr' r w => fcF fr' fun fr' => runOpsTF E C ops rest (ft ++ [(r, cond o.guard.isSome w.dropLast w)]) fr' K

theorem runOpsF_eq {E : Env} {C : Cfg} {ops : List Oper} {ρ : Type} : ∀ (l : List Oper) (fr : Fr) (K : Fr → Option ρ), runOpsF E C ops l fr K = runOps E C ops l fr K
  | [], fr, K => rfl
  | o :: l, fr, K => by simp only [runOpsF, runOps, fcF_eq, runOpsF_eq l]

theorem execT_congr {α ρ : Type} : ∀ (p : Pr α) (fr : Fr) (r w : List Nat) (K K' : α → Fr → List Nat → List Nat → Option ρ), (∀ a fr r w, K a fr r w = K' a fr r w) → p.execT fr r w K = p.execT fr r w K'
  | .ret a, fr, r, w, K, K', h => h _ _ _ _
  | .fail, _, _, _, _, _, _ => rfl
  | .getS i k, fr, r, w, K, K', h => execT_congr (k _) _ _ _ K K' h
  | .getR i k, fr, r, w, K, K', h => execT_congr (k _) _ _ _ K K' h
  | .setS i v k, fr, r, w, K, K', h => execT_congr k _ _ _ K K' h
  | .setR i x k, fr, r, w, K, K', h => execT_congr k _ _ _ K K' h
  | .ite b p q, fr, r, w, K, K', h => by simp only [Pr.execT]; rw [execT_congr p _ _ _ K K' h, execT_congr q _ _ _ K K' h]
  | .opt o k, fr, r, w, K, K', h => by
    cases o with
    | none => rfl
    | some v => exact execT_congr (k v) _ _ _ K K' h

theorem runOpsTF_eq {E : Env} {C : Cfg} {ops : List Oper} {ρ : Type} : ∀ (l : List Oper) (ft : List (List Nat × List Nat)) (fr : Fr) (K : Fr → Option ρ), ft.length + l.length ≤ ops.length → runOpsTF E C ops l ft fr K = runOpsT E C ops l ft fr K
  | [], ft, fr, K, h => by
    simp only [runOpsTF, runOpsT]
    rw [indepF_eq ops ft (by simpa using h)]
    cases indepAll (ancs ops []) ft <;> cases edgesBack 0 ops <;> rfl
  | o :: l, ft, fr, K, h => by
    simp only [runOpsTF, runOpsT]
    refine execT_congr _ _ _ _ _ _ fun a fr' r w => ?_
    rw [fcF_eq]
    exact runOpsTF_eq l _ _ _ (by simp at h ⊢; omega)

/-- The frame at the head of a loop, made plain. -/
def nrmH (C : Cfg) (pre b : Nat) (fr : Fr) (K : Fr → Option Fr) : Option Fr :=
  cond (sortedB 0 (loopCfg C.loops b).1) ((normF pre (loopCfg C.loops b).1 (loopCfg C.loops b).2 fr).bind fun p => K (mkF p.1 p.2.1 p.2.2)) ((nrmB C pre b fr).bind K)

theorem nrmH_eq (C : Cfg) (pre b : Nat) (fr : Fr) (K : Fr → Option Fr) : nrmH C pre b fr K = (nrmB C pre b fr).bind K := by
  unfold nrmH
  cases h : sortedB 0 (loopCfg C.loops b).1 with
  | false => rfl
  | true =>
    unfold nrmB
    rw [normF_eq pre _ _ fr h]
    cases normF pre (loopCfg C.loops b).1 (loopCfg C.loops b).2 fr <;> rfl

/-! ### all of it up to the next loop, by computation -/
noncomputable def runS (E : Env) (C : Cfg) (pre : Nat) (H : List It → Ex → Fr → Option Fr) : Nat → Code → List It → Fr → (Ex → Fr → Option Fr) → Option Fr
  | _, .skip, _, fr, K => K .normal fr
  | _, .region id ops draw, _, fr, K => cond draw (runOpsTF E C ops.toList ops.toList [] (preF C.cons id fr) (K .normal)) (runOpsF E C ops.toList ops.toList fr (K .normal))
  | b, .seq x y, k, fr, K => runS E C pre H b x (.code b y :: k) fr fun e fr' => match e with
    | .normal => runS E C pre H b y k fr' K
    | .exit i => K (.exit i) fr'
    | .ret => K .ret fr'
  | b, .cond c x y, k, fr, K => match c with
    | .tmp t => match fr.slot t with
      | .dat .bool q => cond q (runS E C pre H b x k (fr.setS t (dB true)) K) (runS E C pre H b y k (fr.setS t (dB false)) K)
      | .ub => both (runS E C pre H b x k (fr.setS t (dB true)) K) (runS E C pre H b y k (fr.setS t (dB false)) K)
      | _ => none
    | .const (.bool q) => cond q (runS E C pre H b x k fr K) (runS E C pre H b y k fr K)
    | _ => none
  | _, .block i x, k, fr, K => runS E C pre H i x (.blk i :: k) fr fun e fr' => match e with
    | .normal => K .normal fr'
    | .exit j => cond (Nat.beq j i) (K .normal fr') (K (.exit j) fr')
    | .ret => K .ret fr'
  | b, .loop x, k, fr, _ => nrmH C pre b fr fun fr1 => H (.code b x :: .lp b x :: k) .normal fr1
  | _, .exit i, _, fr, K => K (.exit i) fr
  | _, .ret, _, fr, K => K .ret fr
  | _, _, _, _, _ => none

noncomputable def contS (E : Env) (C : Cfg) (pre : Nat) (F : Ex → Fr → Option Fr) (H : List It → Ex → Fr → Option Fr) : List It → Ex → Fr → Option Fr
  | [], e, fr => F e fr
  | .code b c :: k, .normal, fr => runS E C pre H b c k fr (contS E C pre F H k)
  | .code _ _ :: k, e, fr => contS E C pre F H k e fr
  | .blk i :: k, .exit j, fr => cond (Nat.beq j i) (contS E C pre F H k .normal fr) (contS E C pre F H k (.exit j) fr)
  | .blk _ :: k, e, fr => contS E C pre F H k e fr
  | .lp b x :: k, .normal, fr => nrmH C pre b fr fun fr1 => H (.code b x :: .lp b x :: k) .normal fr1
  | .lp _ _ :: k, e, fr => contS E C pre F H k e fr

theorem runS_T {E : Env} {C : Cfg} {pre : Nat} {F : Ex → Fr → Option Fr} : ∀ (c : Code) (b : Nat) (k : List It) (fr : Fr) (K : Ex → Fr → Option Fr), (∀ e fr, K e fr = T E C pre F k e fr) →
    runS E C pre (T E C pre F) b c k fr K = T E C pre F (.code b c :: k) .normal fr
  | .skip, b, k, fr, K, h => by rw [T_step]; exact h _ _
  | .region id ops draw, b, k, fr, K, h => by
    rw [T_step]
    have : K .normal = T E C pre F k .normal := funext fun fr => h .normal fr
    simp only [runS, stepF, this, runOpsF_eq]
    rw [runOpsTF_eq _ _ _ _ (by simp)]
  | .seq x y, b, k, fr, K, h => by
    rw [T_step]
    simp only [runS, stepF]
    refine runS_T x b (.code b y :: k) fr _ fun e fr' => ?_
    cases e with
    | normal => exact runS_T y b k fr' K h
    | exit i => rw [T_step]; exact h _ _
    | ret => rw [T_step]; exact h _ _
  | .cond c x y, b, k, fr, K, h => by
    rw [T_step]
    simp only [runS, stepF]
    split
    · split
      · rw [runS_T x b k _ K h, runS_T y b k _ K h]
      · rw [runS_T x b k _ K h, runS_T y b k _ K h]
      · rfl
    · rw [runS_T x b k _ K h, runS_T y b k _ K h]
    · rfl
  | .block i x, b, k, fr, K, h => by
    rw [T_step]
    simp only [runS, stepF]
    refine runS_T x i (.blk i :: k) fr _ fun e fr' => ?_
    cases e with
    | normal => rw [T_step]; exact h _ _
    | exit j => rw [T_step]; simp only [stepF, h]
    | ret => rw [T_step]; exact h _ _
  | .loop x, b, k, fr, K, h => by
    rw [T_step]
    simp only [runS, stepF, nrmH_eq]
    rw [T_step]
    simp only [stepF]
  | .exit i, b, k, fr, K, h => by rw [T_step]; exact h _ _
  | .ret, b, k, fr, K, h => by rw [T_step]; exact h _ _
  | .rangeFunc _ _ _ _, b, k, fr, K, h => by rw [T_step]; rfl
  | .scope _, b, k, fr, K, h => by rw [T_step]; rfl
  | .label _, b, k, fr, K, h => by rw [T_step]; rfl
  | .goto _, b, k, fr, K, h => by rw [T_step]; rfl
  | .refuse _, b, k, fr, K, h => by rw [T_step]; rfl

theorem contS_T {E : Env} {C : Cfg} {pre : Nat} {F : Ex → Fr → Option Fr} : ∀ (k : List It) (e : Ex) (fr : Fr), contS E C pre F (T E C pre F) k e fr = T E C pre F k e fr
  | [], e, fr => by rw [T_step]; rfl
  | .code b c :: k, .normal, fr => by
    simp only [contS]
    exact runS_T c b k fr _ (contS_T k)
  | .code b c :: k, .exit i, fr => by rw [T_step]; exact contS_T k _ _
  | .code b c :: k, .ret, fr => by rw [T_step]; exact contS_T k _ _
  | .blk i :: k, .normal, fr => by rw [T_step]; exact contS_T k _ _
  | .blk i :: k, .ret, fr => by rw [T_step]; exact contS_T k _ _
  | .blk i :: k, .exit j, fr => by rw [T_step]; simp only [contS, stepF, contS_T k]
  | .lp b x :: k, .normal, fr => by rw [T_step]; simp only [contS, stepF, nrmH_eq]
  | .lp b x :: k, .exit i, fr => by rw [T_step]; exact contS_T k _ _
  | .lp b x :: k, .ret, fr => by rw [T_step]; exact contS_T k _ _

theorem T_code {E : Env} {C : Cfg} {pre : Nat} {F : Ex → Fr → Option Fr} (b : Nat) (c : Code) (k : List It) (fr : Fr) :
    T E C pre F (.code b c :: k) .normal fr = runS E C pre (T E C pre F) b c k fr (contS E C pre F (T E C pre F) k) :=
  (runS_T c b k fr _ (contS_T k)).symm

end Go.Ev

set_option linter.unusedSimpArgs false
set_option linter.unusedVariables false
namespace Go.Ev
open Go

/-! ### the same runs over trees of slots (only for speed) -/
inductive Tr where
  | leaf
  | node (l : Tr) (v : FV) (r : Tr)

def oddN (i : Nat) : Bool := Nat.beq (Nat.mod i 2) 1
def halfN (i : Nat) : Nat := Nat.div (Nat.sub i 1) 2

def Tr.get : Tr → Nat → FV
  | .leaf, _ => .undef
  | .node l v r, i => cond (Nat.beq i 0) v (cond (oddN i) (l.get (halfN i)) (r.get (halfN i)))

def Tr.setK {ρ : Type} : Nat → Tr → Nat → FV → (Tr → ρ) → ρ
  | 0, t, _, _, k => k t
  | f + 1, t, i, v, k => match t with
    | .leaf => cond (Nat.beq i 0) (k (.node .leaf v .leaf)) (cond (oddN i) (Tr.setK f .leaf (halfN i) v fun l => k (.node l .undef .leaf)) (Tr.setK f .leaf (halfN i) v fun r => k (.node .leaf .undef r)))
    | .node l x r => cond (Nat.beq i 0) (k (.node l v r)) (cond (oddN i) (Tr.setK f l (halfN i) v fun l => k (.node l x r)) (Tr.setK f r (halfN i) v fun r => k (.node l x r)))

def Tr.set : Nat → Tr → Nat → FV → Tr
  | 0, t, _, _ => t
  | f + 1, t, i, v => match t with
    | .leaf => cond (Nat.beq i 0) (.node .leaf v .leaf) (cond (oddN i) (.node (Tr.set f .leaf (halfN i) v) .undef .leaf) (.node .leaf .undef (Tr.set f .leaf (halfN i) v)))
    | .node l x r => cond (Nat.beq i 0) (.node l v r) (cond (oddN i) (.node (Tr.set f l (halfN i) v) x r) (.node l x (Tr.set f r (halfN i) v)))

theorem Tr.setK_eq {ρ : Type} : ∀ (f : Nat) (t : Tr) (i : Nat) (v : FV) (k : Tr → ρ), Tr.setK f t i v k = k (Tr.set f t i v)
  | 0, t, i, v, k => rfl
  | f + 1, .leaf, i, v, k => by
    simp only [Tr.setK, Tr.set, Tr.setK_eq f]
    cases Nat.beq i 0 <;> cases oddN i <;> rfl
  | f + 1, .node l x r, i, v, k => by
    simp only [Tr.setK, Tr.set, Tr.setK_eq f]
    cases Nat.beq i 0 <;> cases oddN i <;> rfl

theorem half_lt {i f : Nat} (h : i < f + 1) (h0 : i ≠ 0) : halfN i < f := by
  show (i - 1) / 2 < f; omega
theorem oddN_eq (i : Nat) : oddN i = decide (i % 2 = 1) := by
  unfold oddN
  show Nat.beq (i % 2) 1 = _
  by_cases h : i % 2 = 1
  · simp [h]
  · rw [beq_no h]; simp [h]
theorem half_ne {i j : Nat} (hi : i ≠ 0) (hj : j ≠ 0) (h : i ≠ j) (hp : oddN i = oddN j) : halfN j ≠ halfN i := by
  rw [oddN_eq, oddN_eq] at hp
  have hp' : (i % 2 = 1) ↔ (j % 2 = 1) := by simpa using hp
  show ¬ ((j - 1) / 2 = (i - 1) / 2)
  omega

theorem Tr.get_set : ∀ (f : Nat) (t : Tr) (i j : Nat) (v : FV), i < f → (Tr.set f t i v).get j = if j = i then v else t.get j
  | 0, t, i, j, v, h => by omega
  | f + 1, t, i, j, v, h => by
    have e0 : ∀ n : Nat, n ≠ 0 → Nat.beq n 0 = false := fun n hn => beq_no hn
    have hl : ∀ n, (Tr.leaf).get n = .undef := fun n => rfl
    by_cases hi : i = 0
    · subst hi
      by_cases hj : j = 0
      · subst hj; cases t <;> rfl
      · rw [if_neg hj]
        cases t with
        | leaf => rw [show Tr.set (f + 1) Tr.leaf 0 v = .node .leaf v .leaf from rfl]; simp only [Tr.get, e0 j hj, cond_false]; cases oddN j <;> rfl
        | node l x r => rw [show Tr.set (f + 1) (.node l x r) 0 v = .node l v r from rfl]; simp only [Tr.get, e0 j hj, cond_false]
    · have hlt := half_lt h hi
      by_cases hj : j = 0
      · subst hj
        rw [if_neg (by omega)]
        cases t with
        | leaf => simp only [Tr.set, e0 i hi, cond_false]; cases oddN i <;> rfl
        | node l x r => simp only [Tr.set, e0 i hi, cond_false]; cases oddN i <;> rfl
      · by_cases hij : j = i
        · subst hij
          rw [if_pos rfl]
          cases t with
          | leaf => simp only [Tr.set, e0 j hj, cond_false]; cases ho : oddN j <;> simp [Tr.get, e0 j hj, ho, Tr.get_set f _ _ _ _ hlt]
          | node l x r => simp only [Tr.set, e0 j hj, cond_false]; cases ho : oddN j <;> simp [Tr.get, e0 j hj, ho, Tr.get_set f _ _ _ _ hlt]
        · rw [if_neg hij]
          by_cases hp : oddN i = oddN j
          · have hne := half_ne hi hj (fun e => hij e.symm) hp
            cases t with
            | leaf => simp only [Tr.set, e0 i hi, cond_false, hp]; cases ho : oddN j <;> simp [Tr.get, e0 j hj, ho, Tr.get_set f _ _ _ _ hlt, hne]
            | node l x r => simp only [Tr.set, e0 i hi, cond_false, hp]; cases ho : oddN j <;> simp [Tr.get, e0 j hj, ho, Tr.get_set f _ _ _ _ hlt, hne]
          · cases t with
            | leaf => cases hoi : oddN i <;> cases hoj : oddN j <;> first | exact absurd (hoi.trans hoj.symm) hp | simp [Tr.set, Tr.get, e0 j hj, e0 i hi, hoi, hoj]
            | node l x r => cases hoi : oddN i <;> cases hoj : oddN j <;> first | exact absurd (hoi.trans hoj.symm) hp | simp [Tr.set, Tr.get, e0 j hj, e0 i hi, hoi, hoj]

structure Fq where
  n : Nat
  t : Tr
  regs : List (Nat × Reg)

def Fq.slot (q : Fq) (i : Nat) : FV := cond (Nat.blt i q.n) (q.t.get i) .undef
def Fq.reg (q : Fq) (k : Nat) : Reg := regAt q.regs k
def Fq.setSK (q : Fq) (i : Nat) (v : FV) {ρ : Type} (k : Fq → ρ) : ρ := match q with
  | ⟨n, t, r⟩ => Tr.setK (Nat.succ i) t i v fun t => k ⟨n, t, r⟩
def regPutK {ρ : Type} : List (Nat × Reg) → Nat → Reg → (List (Nat × Reg) → ρ) → ρ
  | [], k, r, K => K [(k, r)]
  | (i, x) :: l, k, r, K => cond (Nat.beq i k) (K ((i, r) :: l)) (cond (Nat.blt k i) (K ((k, r) :: (i, x) :: l)) (regPutK l k r fun l' => K ((i, x) :: l')))
def Fq.setRK (q : Fq) (i : Nat) (v : Reg) {ρ : Type} (k : Fq → ρ) : ρ := match q with
  | ⟨n, t, r⟩ => regPutK r i v fun r => k ⟨n, t, r⟩
def Fq.to (q : Fq) : Fr := ⟨(List.range q.n).map q.t.get, q.regs⟩

theorem regPutK_eq {ρ : Type} : ∀ (l : List (Nat × Reg)) (k : Nat) (r : Reg) (K : List (Nat × Reg) → ρ), regPutK l k r K = K (regPut l k r)
  | [], k, r, K => rfl
  | (i, x) :: l, k, r, K => by
    simp only [regPutK, regPut, regPutK_eq l]
    cases Nat.beq i k <;> cases Nat.blt k i <;> rfl

theorem blt_eq (i n : Nat) : Nat.blt i n = decide (i < n) := by
  by_cases h : i < n
  · rw [show Nat.blt i n = true from Nat.ble_eq_true_of_le h]; simp [h]
  · have : Nat.blt i n = false := by
      cases hb : Nat.blt i n with
      | false => rfl
      | true => exact absurd (Nat.le_of_ble_eq_true hb) h
    simp [this, h]

theorem Fq.slot_eq (q : Fq) (i : Nat) : q.to.slot i = q.slot i := by
  unfold Fq.to Fr.slot Fq.slot
  simp only [List.getD_eq_getElem?_getD, List.getElem?_map, List.getElem?_range', blt_eq]
  by_cases h : i < q.n
  · simp [h]
  · simp [h, List.getElem?_eq_none]

theorem Fq.setSK_eq (q : Fq) (i : Nat) (v : FV) {ρ : Type} (k : Fq → ρ) : ∃ q' : Fq, q.setSK i v k = k q' ∧ q'.to = q.to.setS i v ∧ q'.n = q.n := by
  obtain ⟨n, t, r⟩ := q
  refine ⟨⟨n, Tr.set (Nat.succ i) t i v, r⟩, by simp only [Fq.setSK, Tr.setK_eq], ?_, rfl⟩
  unfold Fq.to Fr.setS
  simp only
  congr 1
  apply List.ext_getElem?
  intro j
  rw [List.getElem?_set]
  simp only [List.getElem?_map, List.length_map, List.length_range]
  by_cases hj : j < n
  · rw [List.getElem?_range hj]
    simp only [Option.map_some, Tr.get_set _ _ _ _ _ (Nat.lt_succ_self i)]
    by_cases hij : i = j
    · subst hij; simp [hj]
    · simp [hij]; intro e; exact absurd e.symm hij
  · rw [List.getElem?_eq_none (by simpa using hj)]
    by_cases hij : i = j
    · subst hij; simp [hj]
    · simp [hij]

theorem Fq.setRK_eq (q : Fq) (i : Nat) (v : Reg) {ρ : Type} (k : Fq → ρ) : ∃ q' : Fq, q.setRK i v k = k q' ∧ q'.to = q.to.setR i v := by
  obtain ⟨n, t, r⟩ := q
  exact ⟨⟨n, t, regPut r i v⟩, by simp only [Fq.setRK, regPutK_eq], rfl⟩

def Pr.execQ {α ρ : Type} : Pr α → Fq → (α → Fq → Option ρ) → Option ρ
  | .ret a, q, K => K a q
  | .fail, _, _ => none
  | .getS i k, q, K => (k (q.slot i)).execQ q K
  | .getR i k, q, K => (k (q.reg i)).execQ q K
  | .setS i v k, q, K => fcV v fun v => q.setSK i v fun q => k.execQ q K
  | .setR i r k, q, K => fcR r fun r => q.setRK i r fun q => k.execQ q K
  | .ite b p p', q, K => cond b (p.execQ q K) (p'.execQ q K)
  | .opt o k, q, K => o.bind fun v => (k v).execQ q K

theorem execQ_eq {α ρ : Type} : ∀ (p : Pr α) (q : Fq) (K : α → Fq → Option ρ) (K' : α → Fr → Option ρ), (∀ a q, K a q = K' a q.to) → p.execQ q K = p.exec q.to K'
  | .ret a, q, K, K', h => h _ _
  | .fail, _, _, _, _ => rfl
  | .getS i k, q, K, K', h => by simp only [Pr.execQ, Pr.exec, Fq.slot_eq]; exact execQ_eq (k _) _ _ _ h
  | .getR i k, q, K, K', h => execQ_eq (k _) _ _ _ h
  | .setS i v k, q, K, K', h => by
    simp only [Pr.execQ, Pr.exec, fcV_eq]
    obtain ⟨q', h1, h2, _⟩ := Fq.setSK_eq q i v (fun q => k.execQ q K)
    rw [h1, ← h2]; exact execQ_eq k _ _ _ h
  | .setR i r k, q, K, K', h => by
    simp only [Pr.execQ, Pr.exec, fcR_eq]
    obtain ⟨q', h1, h2⟩ := Fq.setRK_eq q i r (fun q => k.execQ q K)
    rw [h1, ← h2]; exact execQ_eq k _ _ _ h
  | .ite b p p', q, K, K', h => by simp only [Pr.execQ, Pr.exec]; rw [execQ_eq p _ _ _ h, execQ_eq p' _ _ _ h]
  | .opt o k, q, K, K', h => by
    cases o with
    | none => rfl
    | some v => exact execQ_eq (k v) _ _ _ h

def Pr.execTQ {α ρ : Type} : Pr α → Fq → List Nat → List Nat → (α → Fq → List Nat → List Nat → Option ρ) → Option ρ
  | .ret a, q, r, w, K => K a q r w
  | .fail, _, _, _, _ => none
  | .getS i k, q, r, w, K => (k (q.slot i)).execTQ q (2 * i :: r) w K
  | .getR i k, q, r, w, K => (k (q.reg i)).execTQ q ((2 * i + 1) :: r) w K
  | .setS i v k, q, r, w, K => fcV v fun v => q.setSK i v fun q => k.execTQ q r (2 * i :: w) K
  | .setR i x k, q, r, w, K => fcR x fun x => q.setRK i x fun q => k.execTQ q r ((2 * i + 1) :: w) K
  | .ite b p p', q, r, w, K => cond b (p.execTQ q r w K) (p'.execTQ q r w K)
  | .opt o k, q, r, w, K => match o with
    | some v => (k v).execTQ q r w K
    | none => none

theorem execTQ_eq {α ρ : Type} : ∀ (p : Pr α) (q : Fq) (r w : List Nat) (K : α → Fq → List Nat → List Nat → Option ρ) (K' : α → Fr → List Nat → List Nat → Option ρ),
    (∀ a q r w, K a q r w = K' a q.to r w) → p.execTQ q r w K = p.execT q.to r w K'
  | .ret a, q, r, w, K, K', h => h _ _ _ _
  | .fail, _, _, _, _, _, _ => rfl
  | .getS i k, q, r, w, K, K', h => by simp only [Pr.execTQ, Pr.execT, Fq.slot_eq]; exact execTQ_eq (k _) _ _ _ _ _ h
  | .getR i k, q, r, w, K, K', h => execTQ_eq (k _) _ _ _ _ _ h
  | .setS i v k, q, r, w, K, K', h => by
    simp only [Pr.execTQ, Pr.execT, fcV_eq]
    obtain ⟨q', h1, h2, _⟩ := Fq.setSK_eq q i v (fun q => k.execTQ q r (2 * i :: w) K)
    rw [h1, ← h2]; exact execTQ_eq k _ _ _ _ _ h
  | .setR i x k, q, r, w, K, K', h => by
    simp only [Pr.execTQ, Pr.execT, fcR_eq]
    obtain ⟨q', h1, h2⟩ := Fq.setRK_eq q i x (fun q => k.execTQ q r ((2 * i + 1) :: w) K)
    rw [h1, ← h2]; exact execTQ_eq k _ _ _ _ _ h
  | .ite b p p', q, r, w, K, K', h => by simp only [Pr.execTQ, Pr.execT]; rw [execTQ_eq p _ _ _ _ _ h, execTQ_eq p' _ _ _ _ _ h]
  | .opt o k, q, r, w, K, K', h => by
    cases o with
    | none => rfl
    | some v => exact execTQ_eq (k v) _ _ _ _ _ h

def runOpsQ (E : Env) (C : Cfg) (ops : List Oper) {ρ : Type} : List Oper → Fq → (Fq → Option ρ) → Option ρ
  | [], q, K => K q
  | o :: rest, q, K => (gop E C ops o).execQ q fun _ q' => runOpsQ E C ops rest q' K

def runOpsTQ (E : Env) (C : Cfg) (ops : List Oper) {ρ : Type} : List Oper → List (List Nat × List Nat) → Fq → (Fq → Option ρ) → Option ρ
  | [], ft, q, K => cond (indepF ops ft) (cond (edgesBack 0 ops) (K q) none) none
  | o :: rest, ft, q, K => (gop E C ops o).execTQ q [] [] fun _ q' r w => runOpsTQ E C ops rest (ft ++ [(r, cond o.guard.isSome w.dropLast w)]) q' K

theorem runOpsQ_eq {E : Env} {C : Cfg} {ops : List Oper} {ρ : Type} : ∀ (l : List Oper) (q : Fq) (K : Fq → Option ρ) (K' : Fr → Option ρ), (∀ q, K q = K' q.to) → runOpsQ E C ops l q K = runOpsF E C ops l q.to K'
  | [], q, K, K', h => h q
  | o :: l, q, K, K', h => by
    simp only [runOpsQ, runOpsF]
    exact execQ_eq _ _ _ _ fun _ q' => by rw [fcF_eq]; exact runOpsQ_eq l q' K K' h

theorem runOpsTQ_eq {E : Env} {C : Cfg} {ops : List Oper} {ρ : Type} : ∀ (l : List Oper) (ft : List (List Nat × List Nat)) (q : Fq) (K : Fq → Option ρ) (K' : Fr → Option ρ), (∀ q, K q = K' q.to) → runOpsTQ E C ops l ft q K = runOpsTF E C ops l ft q.to K'
  | [], ft, q, K, K', h => by simp only [runOpsTQ, runOpsTF, h]
  | o :: l, ft, q, K, K', h => by
    simp only [runOpsTQ, runOpsTF]
    exact execTQ_eq _ _ _ _ _ _ fun _ q' r w => by rw [fcF_eq]; exact runOpsTQ_eq l _ q' K K' h

/-! ### heads of loops -/
def pickQ : List Nat → Fq → List (Nat × FV)
  | [], _ => []
  | k :: ks, q => match q.slot k with
    | .undef => pickQ ks q
    | v => (k, v) :: pickQ ks q

def ownQ : List (Nat × Tc) → Nat → Fq → (Fq → Option Fr) → Option Fr
  | [], _, q, K => K q
  | (i, t) :: l, j, q, K => match q.slot i with
    | .nil0 => match q.reg (900 + j) with
      | .abs => q.setRK (900 + j) (.arr t []) fun q => q.setSK i (.slc (900 + j)) fun q => ownQ l (j + 1) q K
      | _ => none
    | _ => ownQ l (j + 1) q K

def nrmHQ (C : Cfg) (pre b : Nat) (q : Fq) (K : Fr → Option Fr) : Option Fr :=
  cond (sortedB 0 (loopCfg C.loops b).1) (ownQ (loopCfg C.loops b).2 0 q fun q1 =>
    (collectF q1.regs 200 (List.range pre ++ idP (pickQ (loopCfg C.loops b).1 q1)) []).bind fun ids =>
      K (mkF q1.n (rnP (newNo 500 pre ids) (pickQ (loopCfg C.loops b).1 q1)) ((numbered 0 (ids.map fun k => (q1.reg k).ren (newNo 500 pre ids))).map fun p => (cond (Nat.blt p.1 pre) p.1 (500 + p.1), p.2)))) ((nrmB C pre b q.to).bind K)

theorem fm_congr {α β : Type} {f g : α → Option β} : ∀ {l : List α}, (∀ x ∈ l, f x = g x) → l.filterMap f = l.filterMap g
  | [], _ => rfl
  | x :: l, h => by
    simp only [List.filterMap_cons]
    rw [h x (by simp), fm_congr fun y hy => h y (by simp [hy])]

theorem pick_fm : ∀ (l : List FV) (ks : List Nat) (i : Nat), sortedB i ks = true → pickS ks i l = ks.filterMap fun k => match l[k - i]? with
    | some .undef => none
    | some v => some (k, v)
    | none => none
  | l, [], i, h => by cases l <;> rfl
  | [], k :: ks, i, h => by
    simp only [pickS]
    symm
    rw [List.filterMap_eq_nil_iff]
    intro a _; rfl
  | v :: l, k :: ks, i, h => by
    have hh := h
    simp only [sortedB] at h
    cases hble : Nat.ble i k with
    | false => rw [hble] at h; cases h
    | true =>
      rw [hble] at h
      simp only [cond_true] at h
      have hk := Nat.le_of_ble_eq_true hble
      simp only [pickS]
      have hrest : ∀ (ks' : List Nat), sortedB (i + 1) ks' = true → (∀ k' ∈ ks', i + 1 ≤ k') → pickS ks' (i + 1) l = ks'.filterMap fun k => match (v :: l)[k - i]? with
          | some .undef => none
          | some v => some (k, v)
          | none => none := by
        intro ks' hs hge
        rw [pick_fm l ks' (i + 1) hs]
        refine fm_congr fun k' hk' => ?_
        have := hge k' hk'
        rw [show k' - i = (k' - (i + 1)) + 1 by omega]; rfl
      have hge : ∀ (ks' : List Nat) (j : Nat), sortedB j ks' = true → ∀ k' ∈ ks', j ≤ k' := by
        intro ks'
        induction ks' with
        | nil => intro j _ k' hk'; cases hk'
        | cons a ks' ih =>
          intro j hs k' hk'
          simp only [sortedB] at hs
          cases hb : Nat.ble j a with
          | false => rw [hb] at hs; cases hs
          | true =>
            rw [hb] at hs
            have := Nat.le_of_ble_eq_true hb
            rcases List.mem_cons.1 hk' with rfl | hk'
            · exact this
            · have := ih (a + 1) hs k' hk'; omega
      cases hb : Nat.beq k i with
      | true =>
        have := Nat.eq_of_beq_eq_true hb
        subst this
        simp only [cond_true, List.filterMap_cons, Nat.sub_self, List.getElem?_cons_zero]
        rw [hrest ks h (hge ks _ h)]
        cases v <;> rfl
      | false =>
        have hne : k ≠ i := fun e => by subst e; simp at hb
        have hs : sortedB (i + 1) (k :: ks) = true := by
          simp only [sortedB]
          have : Nat.ble (i + 1) k = true := Nat.ble_eq_true_of_le (by omega)
          rw [this]; exact h
        simp only [cond_false]
        exact hrest (k :: ks) hs (hge _ _ hs)

theorem pickQ_fm (q : Fq) : ∀ ks : List Nat, pickQ ks q = ks.filterMap fun k => match q.slot k with
    | .undef => none
    | v => some (k, v)
  | [] => rfl
  | k :: ks => by
    simp only [pickQ, List.filterMap_cons]
    rw [pickQ_fm q ks]
    cases q.slot k <;> rfl

theorem pickQ_eq (q : Fq) (ks : List Nat) (h : sortedB 0 ks = true) : pickS ks 0 q.to.slots = pickQ ks q := by
  rw [pick_fm _ _ _ h, pickQ_fm]
  refine fm_congr fun k _ => ?_
  rw [← Fq.slot_eq]
  unfold Fr.slot
  rw [Nat.sub_zero, List.getD_eq_getElem?_getD]
  cases hg : q.to.slots[k]? with
  | none => rfl
  | some v => cases v <;> rfl

theorem ownQ_eq : ∀ (l : List (Nat × Tc)) (j : Nat) (q : Fq) (K : Fq → Option Fr) (K' : Fr → Option Fr), (∀ q, K q = K' q.to) → ownQ l j q K = (ownS l j q.to).bind K'
  | [], j, q, K, K', h => h q
  | (i, t) :: l, j, q, K, K', h => by
    simp only [ownQ, ownS, Fq.slot_eq]
    have hr : q.to.reg (900 + j) = q.reg (900 + j) := rfl
    rw [hr]
    cases q.slot i <;> try exact ownQ_eq l (j + 1) q K K' h
    cases hq : q.reg (900 + j) <;> try rfl
    obtain ⟨q1, h1, h2⟩ := Fq.setRK_eq q (900 + j) (.arr t []) (fun q => q.setSK i (.slc (900 + j)) fun q => ownQ l (j + 1) q K)
    obtain ⟨q2, h3, h4, _⟩ := Fq.setSK_eq q1 i (.slc (900 + j)) (fun q => ownQ l (j + 1) q K)
    simp only
    rw [h1, h3, ← h2, ← h4]
    exact ownQ_eq l (j + 1) q2 K K' h

theorem nrmHQ_eq (C : Cfg) (pre b : Nat) (q : Fq) (K : Fr → Option Fr) : nrmHQ C pre b q K = nrmH C pre b q.to K := by
  unfold nrmHQ nrmH
  cases h : sortedB 0 (loopCfg C.loops b).1 with
  | false => rfl
  | true =>
    simp only [cond_true]
    unfold normF
    rw [Option.bind_assoc]
    refine ownQ_eq _ _ _ _ _ fun q1 => ?_
    rw [pickQ_eq q1 _ h]
    have hn : q1.to.slots.length = q1.n := by simp [Fq.to]
    rw [hn]
    have hr : q1.to.regs = q1.regs := rfl
    rw [hr]
    cases collectF q1.regs 200 (List.range pre ++ idP (pickQ (loopCfg C.loops b).1 q1)) [] <;> rfl

/-! ### code -/
def preQ {ρ : Type} : List Nat → Nat → Fq → (Fq → ρ) → ρ
  | [], _, q, K => K q
  | n :: l, id, q, K => cond (Nat.beq (n / 1000) (300 + id)) (match q.slot (n % 1000) with
    | .slc k => match q.reg k with
      | .arr t xs => q.setRK k (.frz t xs) fun q => preQ l id q K
      | _ => preQ l id q K
    | _ => preQ l id q K) (preQ l id q K)

theorem preQ_eq {ρ : Type} : ∀ (l : List Nat) (id : Nat) (q : Fq) (K : Fq → ρ) (K' : Fr → ρ), (∀ q, K q = K' q.to) → preQ l id q K = K' (preF l id q.to)
  | [], id, q, K, K', h => h q
  | n :: l, id, q, K, K', h => by
    simp only [preQ, preF, Fq.slot_eq]
    cases Nat.beq (n / 1000) (300 + id) with
    | false => exact preQ_eq l id q K K' h
    | true =>
      simp only [cond_true]
      have hr : ∀ k, q.to.reg k = q.reg k := fun _ => rfl
      cases q.slot (n % 1000) with
      | slc k =>
        simp only [hr]
        cases q.reg k with
        | arr t xs =>
          simp only
          obtain ⟨q1, h1, h2⟩ := Fq.setRK_eq q k (.frz t xs) (fun q => preQ l id q K)
          rw [h1, ← h2]
          exact preQ_eq l id q1 K K' h
        | _ => exact preQ_eq l id q K K' h
      | _ => exact preQ_eq l id q K K' h

noncomputable def runSQ (E : Env) (C : Cfg) (pre : Nat) (H : List It → Ex → Fr → Option Fr) : Nat → Code → List It → Fq → (Ex → Fq → Option Fr) → Option Fr
  | _, .skip, _, q, K => K .normal q
  | _, .region id ops draw, _, q, K => cond draw (preQ C.cons id q fun q => runOpsTQ E C ops.toList ops.toList [] q (K .normal)) (runOpsQ E C ops.toList ops.toList q (K .normal))
  | b, .seq x y, k, q, K => runSQ E C pre H b x (.code b y :: k) q fun e q' => match e with
    | .normal => runSQ E C pre H b y k q' K
    | .exit i => K (.exit i) q'
    | .ret => K .ret q'
  | b, .cond c x y, k, q, K => match c with
    | .tmp t => match q.slot t with
      | .dat .bool z => cond z (q.setSK t (dB true) fun q => runSQ E C pre H b x k q K) (q.setSK t (dB false) fun q => runSQ E C pre H b y k q K)
      | .ub => both (q.setSK t (dB true) fun q => runSQ E C pre H b x k q K) (q.setSK t (dB false) fun q => runSQ E C pre H b y k q K)
      | _ => none
    | .const (.bool z) => cond z (runSQ E C pre H b x k q K) (runSQ E C pre H b y k q K)
    | _ => none
  | _, .block i x, k, q, K => runSQ E C pre H i x (.blk i :: k) q fun e q' => match e with
    | .normal => K .normal q'
    | .exit j => cond (Nat.beq j i) (K .normal q') (K (.exit j) q')
    | .ret => K .ret q'
  | b, .loop x, k, q, _ => nrmHQ C pre b q fun fr1 => H (.code b x :: .lp b x :: k) .normal fr1
  | _, .exit i, _, q, K => K (.exit i) q
  | _, .ret, _, q, K => K .ret q
  | _, _, _, _, _ => none

theorem runSQ_eq {E : Env} {C : Cfg} {pre : Nat} {H : List It → Ex → Fr → Option Fr} : ∀ (c : Code) (b : Nat) (k : List It) (q : Fq) (K : Ex → Fq → Option Fr) (K' : Ex → Fr → Option Fr), (∀ e q, K e q = K' e q.to) →
    runSQ E C pre H b c k q K = runS E C pre H b c k q.to K'
  | .skip, b, k, q, K, K', h => h _ _
  | .region id ops draw, b, k, q, K, K', h => by
    simp only [runSQ, runS]
    rw [preQ_eq C.cons id q _ (fun fr => runOpsTF E C ops.toList ops.toList [] fr (K' .normal)) (fun q => runOpsTQ_eq _ _ q (K .normal) (K' .normal) (h .normal)), runOpsQ_eq _ q (K .normal) (K' .normal) (h .normal)]
  | .seq x y, b, k, q, K, K', h => by
    simp only [runSQ, runS]
    refine runSQ_eq x b _ q _ _ fun e q' => ?_
    cases e with
    | normal => exact runSQ_eq y b k q' K K' h
    | exit i => exact h _ _
    | ret => exact h _ _
  | .cond c x y, b, k, q, K, K', h => by
    simp only [runSQ, runS]
    cases c with
    | tmp t =>
      simp only [Fq.slot_eq]
      cases q.slot t with
      | dat tc z =>
        cases tc with
        | bool =>
          simp only
          obtain ⟨q1, h1, h2, _⟩ := Fq.setSK_eq q t (dB true) (fun q => runSQ E C pre H b x k q K)
          obtain ⟨q2, h3, h4, _⟩ := Fq.setSK_eq q t (dB false) (fun q => runSQ E C pre H b y k q K)
          rw [h1, h3, ← h2, ← h4, runSQ_eq x b k q1 K K' h, runSQ_eq y b k q2 K K' h]
        | _ => rfl
      | ub =>
        simp only
        obtain ⟨q1, h1, h2, _⟩ := Fq.setSK_eq q t (dB true) (fun q => runSQ E C pre H b x k q K)
        obtain ⟨q2, h3, h4, _⟩ := Fq.setSK_eq q t (dB false) (fun q => runSQ E C pre H b y k q K)
        rw [h1, h3, ← h2, ← h4, runSQ_eq x b k q1 K K' h, runSQ_eq y b k q2 K K' h]
      | _ => rfl
    | const v =>
      cases v with
      | bool z => simp only; rw [runSQ_eq x b k q K K' h, runSQ_eq y b k q K K' h]
      | _ => rfl
    | _ => rfl
  | .block i x, b, k, q, K, K', h => by
    simp only [runSQ, runS]
    refine runSQ_eq x i _ q _ _ fun e q' => ?_
    cases e with
    | normal => exact h _ _
    | exit j => simp only [h]
    | ret => exact h _ _
  | .loop x, b, k, q, K, K', h => by simp only [runSQ, runS, nrmHQ_eq]
  | .exit i, b, k, q, K, K', h => h _ _
  | .ret, b, k, q, K, K', h => h _ _
  | .rangeFunc _ _ _ _, b, k, q, K, K', h => rfl
  | .scope _, b, k, q, K, K', h => rfl
  | .label _, b, k, q, K, K', h => rfl
  | .goto _, b, k, q, K, K', h => rfl
  | .refuse _, b, k, q, K, K', h => rfl

noncomputable def contSQ (E : Env) (C : Cfg) (pre : Nat) (F : Ex → Fq → Option Fr) (H : List It → Ex → Fr → Option Fr) : List It → Ex → Fq → Option Fr
  | [], e, q => F e q
  | .code b c :: k, .normal, q => runSQ E C pre H b c k q (contSQ E C pre F H k)
  | .code _ _ :: k, e, q => contSQ E C pre F H k e q
  | .blk i :: k, .exit j, q => cond (Nat.beq j i) (contSQ E C pre F H k .normal q) (contSQ E C pre F H k (.exit j) q)
  | .blk _ :: k, e, q => contSQ E C pre F H k e q
  | .lp b x :: k, .normal, q => nrmHQ C pre b q fun fr1 => H (.code b x :: .lp b x :: k) .normal fr1
  | .lp _ _ :: k, e, q => contSQ E C pre F H k e q

theorem contSQ_eq {E : Env} {C : Cfg} {pre : Nat} {F : Ex → Fq → Option Fr} {F' : Ex → Fr → Option Fr} {H : List It → Ex → Fr → Option Fr} (hF : ∀ e q, F e q = F' e q.to) :
    ∀ (k : List It) (e : Ex) (q : Fq), contSQ E C pre F H k e q = contS E C pre F' H k e q.to
  | [], e, q => hF e q
  | .code b c :: k, .normal, q => by
    simp only [contSQ, contS]
    exact runSQ_eq c b k q _ _ (contSQ_eq hF k)
  | .code _ _ :: k, .exit i, q => by simp only [contSQ, contS]; exact contSQ_eq hF k _ q
  | .code _ _ :: k, .ret, q => by simp only [contSQ, contS]; exact contSQ_eq hF k _ q
  | .blk i :: k, .normal, q => by simp only [contSQ, contS]; exact contSQ_eq hF k _ q
  | .blk i :: k, .ret, q => by simp only [contSQ, contS]; exact contSQ_eq hF k _ q
  | .blk i :: k, .exit j, q => by simp only [contSQ, contS]; rw [contSQ_eq hF k, contSQ_eq hF k]
  | .lp b x :: k, .normal, q => by simp only [contSQ, contS, nrmHQ_eq]
  | .lp _ _ :: k, .exit i, q => by simp only [contSQ, contS]; exact contSQ_eq hF k _ q
  | .lp _ _ :: k, .ret, q => by simp only [contSQ, contS]; exact contSQ_eq hF k _ q

def finQ (E : Env) (pre : Nat) (rs : List ResultVar) (ms : List RM) : Ex → Fq → Option Fr
  | .exit _, _ => none
  | _, q => ((resV E rs).bind (resM 0 ms)).execQ q fun l q' => pack pre pre ⟨l, q'.regs⟩

theorem finQ_eq (E : Env) (pre : Nat) (rs : List ResultVar) (ms : List RM) (e : Ex) (q : Fq) : finQ E pre rs ms e q = fin E pre rs ms e q.to := by
  cases e with
  | exit i => rfl
  | normal => exact execQ_eq _ _ _ _ fun _ _ => rfl
  | ret => exact execQ_eq _ _ _ _ fun _ _ => rfl

/-! ### where a run begins -/
def mkT : List (Nat × FV) → Tr → Tr
  | [], t => t
  | (i, v) :: l, t => mkT l (Tr.set (Nat.succ i) t i v)
def mkTK {ρ : Type} : List (Nat × FV) → Tr → (Tr → ρ) → ρ
  | [], t, k => k t
  | (i, v) :: l, t, k => Tr.setK (Nat.succ i) t i v fun t => mkTK l t k
theorem mkTK_eq {ρ : Type} : ∀ (l : List (Nat × FV)) (t : Tr) (k : Tr → ρ), mkTK l t k = k (mkT l t)
  | [], t, k => rfl
  | (i, v) :: l, t, k => by simp only [mkTK, mkT, Tr.setK_eq, mkTK_eq l]

def ascB : Nat → List (Nat × FV) → Bool
  | _, [] => true
  | i, p :: l => cond (Nat.ble i p.1) (ascB (p.1 + 1) l) false

theorem mkT_get : ∀ (l : List (Nat × FV)) (t : Tr) (i : Nat), ascB i l = true → ∀ j, j < i → (mkT l t).get j = t.get j
  | [], t, i, h, j, hj => rfl
  | (k, v) :: l, t, i, h, j, hj => by
    simp only [ascB] at h
    cases hb : Nat.ble i k with
    | false => rw [hb] at h; cases h
    | true =>
      rw [hb] at h
      have := Nat.le_of_ble_eq_true hb
      simp only [mkT]
      rw [mkT_get l _ (k + 1) h j (by omega), Tr.get_set _ _ _ _ _ (Nat.lt_succ_self k), if_neg (by omega)]

theorem mkT_mkS : ∀ (n i : Nat) (l : List (Nat × FV)) (t : Tr), ascB i l = true → (∀ j, i ≤ j → t.get j = .undef) → (List.range' i n).map (mkT l t).get = mkS i n l
  | 0, i, l, t, h, ht => by cases l <;> rfl
  | n + 1, i, [], t, h, ht => by
    simp only [mkS, List.range'_succ, List.map_cons, mkT]
    rw [ht i (Nat.le_refl _)]
    have := mkT_mkS n (i + 1) [] t rfl (fun j hj => ht j (by omega))
    simp only [mkT] at this
    rw [this]
  | n + 1, i, (k, v) :: l, t, h, ht => by
    have hh := h
    simp only [ascB] at h
    cases hb : Nat.ble i k with
    | false => rw [hb] at h; cases h
    | true =>
      rw [hb] at h
      simp only [cond_true] at h
      have hk := Nat.le_of_ble_eq_true hb
      simp only [mkS, List.range'_succ, List.map_cons]
      have hs : ∀ j, (Tr.set (Nat.succ k) t k v).get j = if j = k then v else t.get j := fun j => Tr.get_set _ _ _ _ _ (Nat.lt_succ_self k)
      cases he : Nat.beq i k with
      | true =>
        have := Nat.eq_of_beq_eq_true he
        subst this
        simp only [cond_true, mkT]
        rw [mkT_get l _ (i + 1) h i (Nat.lt_succ_self i), hs, if_pos rfl]
        rw [mkT_mkS n (i + 1) l _ h (fun j hj => by rw [hs, if_neg (by omega)]; exact ht j (by omega))]
      | false =>
        have hne : i ≠ k := fun e => by subst e; simp at he
        simp only [cond_false]
        have h2 : ascB (i + 1) ((k, v) :: l) = true := by
          simp only [ascB]
          have : Nat.ble (i + 1) k = true := Nat.ble_eq_true_of_le (by omega)
          rw [this]; exact h
        rw [mkT_get ((k, v) :: l) t (i + 1) h2 i (Nat.lt_succ_self i), ht i (Nat.le_refl _), mkT_mkS n (i + 1) _ t h2 (fun j hj => ht j (by omega))]

theorem mkF_to (n : Nat) (l : List (Nat × FV)) (r : List (Nat × Reg)) (h : ascB 0 l = true) : mkF n l r = Fq.to ⟨n, mkT l .leaf, r⟩ := by
  unfold mkF Fq.to
  simp only
  rw [List.range_eq_range', mkT_mkS n 0 l .leaf h (fun j _ => rfl)]
end Go.Ev

set_option linter.unusedSimpArgs false
set_option linter.unusedVariables false
namespace Go.Ev
open Go

/-- What comes out of a piece of code, when less is left to do. -/
def Left (E : Env) (C : Cfg) (pre : Nat) (F : Ex → Fr → Option Fr) (w0 : World) (en : Ent) (V0 : Vw) (n : Nat) (k : List It) (out : Fr) (e : Exit) (a : Act) (w : World) : Prop :=
  ∃ (fr' : Fr) (n' : Nat) (e' : Ex), n' < n ∧ ex E C pre F n' k e' fr' = some out ∧ e = e'.to ∧ InvW w0 en V0 fr' a w

theorem left_mono {E : Env} {C : Cfg} {pre : Nat} {F : Ex → Fr → Option Fr} {w0 : World} {en : Ent} {V0 : Vw} {n m : Nat} {k : List It} {out : Fr} {e : Exit} {a : Act} {w : World} (h : n ≤ m)
    (hl : Left E C pre F w0 en V0 n k out e a w) : Left E C pre F w0 en V0 m k out e a w := by
  obtain ⟨fr', n', e', h1, h2⟩ := hl
  exact ⟨fr', n', e', Nat.lt_of_lt_of_le h1 h, h2⟩

theorem ex_pos {E : Env} {C : Cfg} {pre : Nat} {F : Ex → Fr → Option Fr} {n : Nat} {k : List It} {e : Ex} {fr out : Fr} (h : ex E C pre F n k e fr = some out) :
    ∃ m, n = m + 1 ∧ stepF E C pre F (ex E C pre F m) k e fr = some out := by
  cases n with
  | zero => cases h
  | succ m => exact ⟨m, rfl, h⟩

theorem preF_ok {w0 : World} {en : Ent} {V0 : Vw} {a : Act} {w : World} : ∀ (l : List Nat) (id : Nat) (fr : Fr), InvW w0 en V0 fr a w → InvW w0 en V0 (preF l id fr) a w
  | [], id, fr, h => h
  | n :: l, id, fr, h => by
    simp only [preF]
    cases Nat.beq (n / 1000) (300 + id) with
    | false => exact preF_ok l id fr h
    | true =>
      simp only [cond_true]
      cases fr.slot (n % 1000) with
      | slc k =>
        simp only
        cases hk : fr.reg k with
        | arr t xs =>
          refine preF_ok l id _ ?_
          obtain ⟨⟨hd, loc, S, hc, hs, h0⟩, hsm⟩ := h
          obtain ⟨S1, h1, h2, _⟩ := ctx_freeze hc hk
          rw [← setR_reg] at h1 h2
          exact ⟨⟨hd, loc, S1, h1, RelVs_mono h2 _ _ hs, Vw.le_trans h0 h2⟩, hsm⟩
        | _ => exact preF_ok l id fr h
      | _ => exact preF_ok l id fr h

theorem code_ok {P : Program} {E : Env} (hE : EnvOk P E) (hm : P.follows .mixedOrders = true) {C : Cfg} {w0 : World} {en : Ent} {V0 : Vw} (hG : E.gl V0.S V0.h) {pre : Nat} (hb : Below V0 pre) {F : Ex → Fr → Option Fr} {out : Fr} :
    ∀ (n : Nat) (c : Code) (b : Nat) (k : List It) (fr : Fr) (a : Act) (w : World), ex E C pre F n (.code b c :: k) .normal fr = some out → InvW w0 en V0 fr a w →
      c.wp P (Left E C pre F w0 en V0 n k out) a w := by
  intro n
  induction n using Nat.strongRecOn with
  | _ n ih =>
    intro c b k fr a w h hi
    replace h := ex_pos h; obtain ⟨m, rfl, hs⟩ := h
    replace h := hs; clear hs
    have lt : m < m + 1 := Nat.lt_succ_self m
    cases c with
    | skip => exact wp_skip ⟨fr, m, .normal, lt, h, rfl, hi⟩
    | region id ops draw =>
      simp only [stepF] at h
      cases draw with
      | true => exact draw_ok hE hm hG (fun fr' a' w' h' hi' => ⟨fr', m, .normal, lt, h', rfl, hi'⟩) h (preF_ok C.cons id fr hi)
      | false => exact wp_region_list (runOps_ok hE hG (fun fr' a' w' h' hi' => ⟨fr', m, .normal, lt, h', rfl, hi'⟩) _ _ _ _ h hi)
    | seq x y =>
      simp only [stepF] at h
      refine wp_seq (wp_mono (ih m lt x b _ fr a w h hi) ?_)
      rintro e a' w' ⟨fr', n', e', h1, h2, rfl, hi'⟩
      cases e' with
      | normal => exact wp_mono (ih n' (by omega) y b k fr' a' w' h2 hi') fun e a w hl => left_mono (by omega) hl
      | exit i =>
        obtain ⟨m', rfl, h3⟩ := ex_pos h2
        exact ⟨fr', m', .exit i, by omega, h3, rfl, hi'⟩
      | ret =>
        obtain ⟨m', rfl, h3⟩ := ex_pos h2
        exact ⟨fr', m', .ret, by omega, h3, rfl, hi'⟩
    | cond c x y =>
      simp only [stepF] at h
      split at h
      · rename_i t
        split at h
        · rename_i q hq
          have hev := (eval_slot hi.1.2.choose_spec.choose_spec.2.1 hq).1
          refine wp_cond hev ?_
          cases q with
          | true => exact wp_mono (ih m lt x b k _ a w h ⟨inv_setB hi.1 hq, hi.2⟩) fun e a w hl => left_mono (by omega) hl
          | false => exact wp_mono (ih m lt y b k _ a w h ⟨inv_setB hi.1 hq, hi.2⟩) fun e a w hl => left_mono (by omega) hl
        · rename_i hq
          obtain ⟨q, hev, hget⟩ := eval_ub hi.1.2.choose_spec.choose_spec.2.1 hq
          obtain ⟨g1, g2⟩ := both_some.1 h
          refine wp_cond hev ?_
          cases q with
          | true => exact wp_mono (ih m lt x b k _ a w g1 ⟨inv_setU hi.1 hget, hi.2⟩) fun e a w hl => left_mono (by omega) hl
          | false => exact wp_mono (ih m lt y b k _ a w g2 ⟨inv_setU hi.1 hget, hi.2⟩) fun e a w hl => left_mono (by omega) hl
        · cases h
      · rename_i q
        refine wp_cond (t := q) rfl ?_
        cases q with
        | true => exact wp_mono (ih m lt x b k _ a w h hi) fun e a w hl => left_mono (by omega) hl
        | false => exact wp_mono (ih m lt y b k _ a w h hi) fun e a w hl => left_mono (by omega) hl
      · cases h
    | block i x =>
      simp only [stepF] at h
      refine wp_block (wp_mono (ih m lt x i _ fr a w h hi) ?_)
      rintro e a' w' ⟨fr', n', e', h1, h2, rfl, hi'⟩
      obtain ⟨m', rfl, h3⟩ := ex_pos h2
      cases e' with
      | normal => exact ⟨fr', m', .normal, by omega, h3, rfl, hi'⟩
      | exit j =>
        simp only [Ex.to, Exit.inBlock]
        simp only [stepF] at h3
        cases hj : Nat.beq j i with
        | true =>
          rw [hj] at h3
          rw [if_pos (Nat.eq_of_beq_eq_true hj)]
          exact ⟨fr', m', .normal, by omega, h3, rfl, hi'⟩
        | false =>
          rw [hj] at h3
          rw [if_neg (by rintro rfl; simp at hj)]
          exact ⟨fr', m', .exit j, by omega, h3, rfl, hi'⟩
      | ret => exact ⟨fr', m', .ret, by omega, h3, rfl, hi'⟩
    | loop x =>
      simp only [stepF] at h
      refine wp_loop_ghost (fun q a w => q < m + 1 ∧ ∃ fr, ex E C pre F q (.lp b x :: k) .normal fr = some out ∧ InvW w0 en V0 fr a w) m ⟨lt, fr, h, hi⟩ ?_
      rintro q a w ⟨hq, fr, h, hi⟩
      obtain ⟨q', rfl, h1⟩ := ex_pos h
      simp only [stepF] at h1
      cases hn : nrmB C pre b fr with
      | none => rw [hn] at h1; cases h1
      | some fr1 =>
        rw [hn] at h1
        simp only [Option.bind_some] at h1
        refine wp_mono (ih q' (by omega) x b _ fr1 a w h1 ⟨norm_ok hn hi.1 hb, hi.2⟩) ?_
        rintro e a' w' ⟨fr', n', e', h2, h3, rfl, hi'⟩
        cases e' with
        | normal => exact ⟨n', by omega, by omega, fr', h3, hi'⟩
        | exit i =>
          obtain ⟨m', rfl, h4⟩ := ex_pos h3
          exact ⟨fr', m', .exit i, by omega, h4, rfl, hi'⟩
        | ret =>
          obtain ⟨m', rfl, h4⟩ := ex_pos h3
          exact ⟨fr', m', .ret, by omega, h4, rfl, hi'⟩
    | exit i => exact wp_exit ⟨fr, m, .exit i, lt, h, rfl, hi⟩
    | ret => exact wp_ret ⟨fr, m, .ret, lt, h, rfl, hi⟩
    | rangeFunc _ _ _ _ => cases h
    | scope _ => cases h
    | label _ => cases h
    | goto _ => cases h
    | refuse _ => cases h

/-- What a function is for its evaluation. -/
structure FnI where
  E : Env
  C : Cfg
  fn : Func
  code : Code
  ms : List RM
  pre : Nat

def FnI.F (I : FnI) : Ex → Fr → Option Fr := fin I.E I.pre I.fn.results.toList I.ms

/-- The state in which something is still to be done. -/
noncomputable def FnI.T (I : FnI) (k : List It) (fr : Fr) : Option Fr := Ev.T I.E I.C I.pre I.F k .normal fr

/-- The same, one stretch further. -/
noncomputable def FnI.G (I : FnI) (b : Nat) (c : Code) (k : List It) (fr : Fr) : Option Fr :=
  runS I.E I.C I.pre (fun k e fr => match e with | .normal => I.T k fr | e => Ev.T I.E I.C I.pre I.F k e fr) b c k fr (contS I.E I.C I.pre I.F (fun k e fr => match e with | .normal => I.T k fr | e => Ev.T I.E I.C I.pre I.F k e fr) k)

theorem FnI.T_eq (I : FnI) (b : Nat) (c : Code) (k : List It) (fr : Fr) : I.T (.code b c :: k) fr = I.G b c k fr := by
  have : (fun (k : List It) (e : Ex) (fr : Fr) => match e with | .normal => I.T k fr | e => Ev.T I.E I.C I.pre I.F k e fr) = Ev.T I.E I.C I.pre I.F := by
    funext k e fr
    cases e <;> rfl
  unfold FnI.G
  rw [this]
  exact T_code b c k fr

def FnI.FQ (I : FnI) : Ex → Fq → Option Fr := finQ I.E I.pre I.fn.results.toList I.ms

/-- The same over a tree of slots. -/
noncomputable def FnI.GQ (I : FnI) (b : Nat) (c : Code) (k : List It) (q : Fq) : Option Fr :=
  runSQ I.E I.C I.pre (fun k e fr => match e with | .normal => I.T k fr | e => Ev.T I.E I.C I.pre I.F k e fr) b c k q (contSQ I.E I.C I.pre I.FQ (fun k e fr => match e with | .normal => I.T k fr | e => Ev.T I.E I.C I.pre I.F k e fr) k)

theorem FnI.GQ_eq (I : FnI) (b : Nat) (c : Code) (k : List It) (q : Fq) : I.GQ b c k q = I.G b c k q.to := by
  unfold FnI.GQ FnI.G
  exact runSQ_eq c b k q _ _ fun e q => contSQ_eq (fun e q => finQ_eq _ _ _ _ e q) k e q

/-- From a frame of which most slots are empty. -/
noncomputable def FnI.GF (I : FnI) (b : Nat) (c : Code) (k : List It) (n : Nat) (l : List (Nat × FV)) (r : List (Nat × Reg)) : Option Fr :=
  cond (ascB 0 l) (mkTK l .leaf fun t => I.GQ b c k ⟨n, t, r⟩) (I.G b c k (mkF n l r))

theorem FnI.GF_eq (I : FnI) (b : Nat) (c : Code) (k : List It) (n : Nat) (l : List (Nat × FV)) (r : List (Nat × Reg)) : I.GF b c k n l r = I.G b c k (mkF n l r) := by
  unfold FnI.GF
  cases h : ascB 0 l with
  | false => rfl
  | true => simp only [cond_true, mkTK_eq, FnI.GQ_eq, mkF_to n l r h]

/-- The run of the whole function. -/
noncomputable def FnI.run (I : FnI) (pk : Fr) : Option Fr :=
  cond (pk.regs.all fun p => Nat.blt p.1 I.pre) (I.T [.code 0 I.code] ⟨pk.slots ++ List.replicate (I.fn.ntmps - pk.slots.length) .undef, pk.regs⟩) none

theorem FnI.sound {P : Program} (I : FnI) (hE : EnvOk P I.E) (hm : P.follows .mixedOrders = true) {f : FuncId} (hf : P.funcs[f]? = some I.fn) (hbody : I.fn.body = some I.code)
    {s : Spec} (hs : ∀ pk out, s.ok pk = true → s.fn pk = some out → I.run pk = some out) : Sound P I.E.gl f s := by
  intro pk out hok hout vals w loc S hcore hG hrel
  have hrun := hs pk out hok hout
  unfold FnI.run at hrun
  cases hall : pk.regs.all fun p => Nat.blt p.1 I.pre with
  | false => rw [hall] at hrun; cases hrun
  | true =>
    rw [hall] at hrun
    simp only [cond_true, FnI.T] at hrun
    obtain ⟨n, hrun⟩ := T_iff.1 hrun
    have habs : ∀ k, I.pre ≤ k → pk.reg k = .abs := by
      intro k hk
      refine Classical.byContradiction fun hne => ?_
      have hmem := regAt_mem (l := pk.regs) (k := k) rfl hne
      have := List.all_eq_true.1 hall _ hmem
      simp [blt_dec] at this
      omega
    have hb : Below (view pk.reg loc S w.heap) I.pre := view_below habs
    refine calls_of_wp hf hbody ?_
    have hi : Inv (entOf pk loc S w.heap) (view pk.reg loc S w.heap) ⟨pk.slots ++ List.replicate (I.fn.ntmps - pk.slots.length) .undef, pk.regs⟩
        { tmps := vals.toArray ++ Array.replicate (I.fn.ntmps - vals.toArray.size) undef, defers := [] } w.heap := by
      refine ⟨rfl, loc, S, ⟨hcore, ⟨Nat.le_refl _, fun _ _ _ => rfl, fun _ h => h, fun _ h => .inl h, fun k hk => .inl ⟨k, hk, rfl⟩, fun b hb ⟨k, hk, e⟩ => hcore.nS k hk (e ▸ hb), hcore.bS⟩⟩, ?_, Vw.le_refl _⟩
      have hl := RelVs_len _ _ hrel
      simp only [Array.toList_append, Array.toList_replicate]
      refine RelVs_app _ _ _ _ hrel (RelVs_undef _ _ ?_)
      simp [hl]
    refine wp_mono (code_ok (w0 := w) hE hm hG hb n I.code 0 [] _ _ w hrun ⟨hi, Sm.rfl'⟩) ?_
    rintro e a' w' ⟨fr', n', e', h1, h2, rfl, hi'⟩
    obtain ⟨m', rfl, h'⟩ := ex_pos h2
    have hfin : ((resV I.E I.fn.results.toList).bind (resM 0 I.ms)).exec fr' (fun l fr' => pack I.pre I.pre ⟨l, fr'.regs⟩) = some out ∧ (e'.to = .normal ∨ e'.to = .ret) := by
      cases e' with
      | normal => exact ⟨h', .inl rfl⟩
      | exit i => simp [stepF, FnI.F, fin] at h'
      | ret => exact ⟨h', .inr rfl⟩
    obtain ⟨hfin, he⟩ := hfin
    rw [Pr.exec_go] at hfin
    cases hg : ((resV I.E I.fn.results.toList).bind (resM 0 I.ms)).go fr' with
    | none => rw [hg] at hfin; cases hfin
    | some x =>
      obtain ⟨l', fr2⟩ := x
      rw [hg] at hfin
      simp only [Option.bind_some] at hfin
      obtain ⟨vs, fr1, q1, q2⟩ := Pr.go_bind_some hg
      obtain ⟨⟨hd, loc1, S1, hc1, hs1, h0⟩, hsm⟩ := hi'
      obtain ⟨rfl, us, ht, hv⟩ := resV_ok hE _ _ _ _ q1 hc1.core hs1
      obtain ⟨loc2, S2, k1, k2, k3⟩ := resM_ok I.ms 0 _ l' _ _ _ loc1 S1 q2 hc1 hv
      obtain ⟨loc3, g1, g2, g3⟩ := pack_ok (fr := ⟨l', fr2.regs⟩) hfin (loc := loc2) (S := S2) k1 k3 (Vw.le_trans h0 k2) hb
      have hres := results_run ht
      have hpost : a'.defers = [] ∧ ∃ v, (results I.fn a'.tmps).run P w' = .ok v w' ∧ ∃ u, Ending.returned v = .returned u ∧ Sm w w' ∧ ∃ loc' S', Ctx (entOf pk loc S w.heap) out.reg loc' S' w'.heap ∧
          (view pk.reg loc S w.heap).le (view out.reg loc' S' w'.heap) ∧ RelV (view out.reg loc' S' w'.heap) (resFV out.slots) u :=
        ⟨hd, _, hres, _, rfl, hsm, loc3, S2, g1, g3, resFV_ok g2⟩
      rcases he with he | he <;> rw [he] <;> exact hpost

end Go.Ev

set_option linter.unusedSimpArgs false
set_option linter.unusedVariables false
namespace Go.Ev
open Go

/-! ### short ways to write things -/
abbrev wrap : IntKind → Int → Int := IntKind.wrap
abbrev tI : Tc := .int .i64
def codeOf (f : Func) : Code := f.body.getD .skip

/-- The way to the loop in block t. -/
def stk (t : Nat) : Nat → Code → List It → Option (List It)
  | b, .seq x y, k => match stk t b x (.code b y :: k) with
    | some r => some r
    | none => stk t b y k
  | b, .cond _ x y, k => match stk t b x k with
    | some r => some r
    | none => stk t b y k
  | _, .block i x, k => stk t i x (.blk i :: k)
  | b, .loop x, k => cond (Nat.beq b t) (some (.code b x :: .lp b x :: k)) (stk t b x (.lp b x :: k))
  | _, _, _ => none

noncomputable def FnI.hd (I : FnI) (t : Nat) (fr : Fr) : Option Fr := I.T ((stk t 0 I.code []).getD []) fr

noncomputable def FnI.gd (I : FnI) (t n : Nat) (l : List (Nat × FV)) (r : List (Nat × Reg)) : Option Fr := match (stk t 0 I.code []).getD [] with
  | .code b c :: k => I.GF b c k n l r
  | k => I.T k (mkF n l r)

theorem FnI.hd_eq (I : FnI) (t n : Nat) (l : List (Nat × FV)) (r : List (Nat × Reg)) : I.hd t (mkF n l r) = I.gd t n l r := by
  unfold FnI.hd FnI.gd
  split
  · rename_i b c k h
    rw [h, FnI.GF_eq]; exact I.T_eq b c k _
  · rfl

theorem hdEq {I : FnI} {t n : Nat} {l : List (Nat × FV)} {rg : List (Nat × Reg)} {r : Option Fr} (h : I.gd t n l rg = r) : I.hd t (mkF n l rg) = r := (I.hd_eq t n l rg).trans h

def num0 : Nat → List FV → List (Nat × FV)
  | _, [] => []
  | i, v :: l => (i, v) :: num0 (i + 1) l

noncomputable def FnI.run' (I : FnI) (pk : Fr) : Option Fr :=
  cond (pk.regs.all fun p => Nat.blt p.1 I.pre) (cond (Nat.ble pk.slots.length I.fn.ntmps) (I.GF 0 I.code [] I.fn.ntmps (num0 0 pk.slots) pk.regs) (I.T [.code 0 I.code] ⟨pk.slots ++ List.replicate (I.fn.ntmps - pk.slots.length) .undef, pk.regs⟩)) none

theorem mkS_nil : ∀ (n i : Nat), mkS i n [] = List.replicate n .undef
  | 0, i => rfl
  | n + 1, i => by simp only [mkS, List.replicate_succ]; rw [mkS_nil n]

theorem mkS_num0 : ∀ (l : List FV) (i n : Nat), l.length ≤ n → mkS i n (num0 i l) = l ++ List.replicate (n - l.length) .undef
  | [], i, n, h => by simp only [num0, mkS_nil]; rfl
  | v :: l, i, 0, h => by simp at h
  | v :: l, i, n + 1, h => by
    simp only [num0, mkS, List.length_cons]
    rw [show Nat.beq i i = true from by simp]
    simp only [cond_true, List.cons_append]
    rw [mkS_num0 l (i + 1) n (by simpa using h), show n + 1 - (l.length + 1) = n - l.length by omega]

theorem FnI.run_eq (I : FnI) (pk : Fr) : I.run pk = I.run' pk := by
  unfold FnI.run FnI.run'
  cases h : Nat.ble pk.slots.length I.fn.ntmps with
  | false => rfl
  | true =>
    have hle := Nat.le_of_ble_eq_true h
    simp only [cond_true, FnI.GF_eq]
    unfold mkF
    rw [mkS_num0 _ 0 _ hle, I.T_eq]

theorem enters_of {P : Program} {f : FuncId} {fn : Func} {c : Code} (hf : P.funcs[f]? = some fn) (hb : fn.body = some c) (hn : (fn.name == "runtime.NumGoroutine") = false) : Enters P f := by
  intro args w
  have : fn.name ≠ "runtime.NumGoroutine" := by simpa using hn
  simp [callFunc, hf, hb, this]

/-! ### contracts -/
@[reducible] def Tup : List Tc → Type
  | [] => Unit
  | t :: ts => t.den × Tup ts

def undats : (ts : List Tc) → Tup ts → List FV
  | [], _ => []
  | t :: ts, x => .dat t x.1 :: undats ts x.2

def dats : (ts : List Tc) → List FV → Option (Tup ts)
  | [], [] => some ()
  | t :: ts, .dat t' x :: l => if h : t' = t then (dats ts l).map fun y => (h ▸ x, y) else none
  | _, _ => none

theorem dats_some : ∀ (ts : List Tc) (l : List FV) (x : Tup ts), dats ts l = some x → l = undats ts x
  | [], [], x, h => rfl
  | [], _ :: _, x, h => by simp [dats] at h
  | t :: ts, [], x, h => by simp [dats] at h
  | t :: ts, v :: l, x, h => by
    cases v with
    | dat t' y =>
      simp only [dats] at h
      split at h
      · rename_i e
        subst e
        cases hd : dats ts l with
        | none => rw [hd] at h; cases h
        | some z =>
          rw [hd] at h
          simp only [Option.map_some, Option.some.injEq] at h
          subst h
          simp only [undats, dats_some ts l z hd]
      · cases h
    | _ => simp [dats] at h

/-! ### frames with holes (.undef) for closed data -/
mutual
def matchV : FV → FV → Option (List FV)
  | .undef, v => match v with
    | .dat t x => some [.dat t x]
    | _ => none
  | .ptr k o, v => match v with
    | .ptr k' o' => cond (Nat.beq k k' && Nat.beq o o') (some []) none
    | _ => none
  | .slc k, v => match v with
    | .slc k' => cond (Nat.beq k k') (some []) none
    | _ => none
  | .mp k, v => match v with
    | .mp k' => cond (Nat.beq k k') (some []) none
    | _ => none
  | .nil0, v => match v with
    | .nil0 => some []
    | _ => none
  | .nilp, v => match v with
    | .nilp => some []
    | _ => none
  | .nilm, v => match v with
    | .nilm => some []
    | _ => none
  | .nilf, v => match v with
    | .nilf => some []
    | _ => none
  | .agg l, v => match v with
    | .agg l' => matchL l l'
    | _ => none
  | .clos f l, v => match v with
    | .clos f' l' => cond (Nat.beq f f') (matchL l l') none
    | _ => none
  | _, _ => none
def matchL : List FV → List FV → Option (List FV)
  | [], l => match l with
    | [] => some []
    | _ => none
  | p :: ps, l => match l with
    | [] => none
    | v :: l => match matchV p v with
      | some a => match matchL ps l with
        | some b => some (a ++ b)
        | none => none
      | none => none
end

mutual
def fillV : FV → List FV → FV × List FV
  | .undef, hs => match hs with
    | h :: hs => (h, hs)
    | [] => (.undef, [])
  | .agg l, hs => (.agg (fillL l hs).1, (fillL l hs).2)
  | .clos f l, hs => (.clos f (fillL l hs).1, (fillL l hs).2)
  | v, hs => (v, hs)
def fillL : List FV → List FV → List FV × List FV
  | [], hs => ([], hs)
  | p :: ps, hs => ((fillV p hs).1 :: (fillL ps (fillV p hs).2).1, (fillL ps (fillV p hs).2).2)
end

def matchR : Reg → Reg → Option (List FV)
  | .box l, r => match r with
    | .box l' => matchL l l'
    | _ => none
  | .arr t _, r => match r with
    | .arr t' xs => if t = t' then some [.dat (.slice t') xs] else none
    | _ => none
  | .frz t _, r => match r with
    | .frz t' xs => if t = t' then some [.dat (.slice t') xs] else none
    | _ => none
  | .map a b _, r => match r with
    | .map a' b' xs => if a = a' ∧ b = b' then some [.dat (.slice (.pair a' b')) xs] else none
    | _ => none
  | _, _ => none

def fillR : Reg → List FV → Reg × List FV
  | .box l, hs => (.box (fillL l hs).1, (fillL l hs).2)
  | .arr t xs, hs => match hs with
    | .dat (.slice t') ys :: hs => (.arr t' ys, hs)
    | _ => (.arr t xs, hs)
  | .frz t xs, hs => match hs with
    | .dat (.slice t') ys :: hs => (.frz t' ys, hs)
    | _ => (.frz t xs, hs)
  | .map a b xs, hs => match hs with
    | .dat (.slice (.pair a' b')) ys :: hs => (.map a' b' ys, hs)
    | _ => (.map a b xs, hs)
  | r, hs => (r, hs)

def matchRs : List (Nat × Reg) → List (Nat × Reg) → Option (List FV)
  | [], l => match l with
    | [] => some []
    | _ => none
  | (i, p) :: ps, l => match l with
    | [] => none
    | (j, r) :: l => cond (Nat.beq i j) (match matchR p r with
      | some a => match matchRs ps l with
        | some b => some (a ++ b)
        | none => none
      | none => none) none

def fillRs : List (Nat × Reg) → List FV → List (Nat × Reg)
  | [], _ => []
  | (i, p) :: ps, hs => (i, (fillR p hs).1) :: fillRs ps (fillR p hs).2

def matchF (p fr : Fr) : Option (List FV) := match matchL p.slots fr.slots with
  | some a => match matchRs p.regs fr.regs with
    | some b => some (a ++ b)
    | none => none
  | none => none

def fillF (p : Fr) (hs : List FV) : Fr := ⟨(fillL p.slots hs).1, fillRs p.regs (fillL p.slots hs).2⟩

theorem beq_ok {a b : Nat} (h : Nat.beq a b = true) : a = b := Nat.eq_of_beq_eq_true h

mutual
theorem fillV_match : ∀ (p v : FV) (hs rest : List FV), matchV p v = some hs → fillV p (hs ++ rest) = (v, rest)
  | .undef, v, hs, rest, h => by
    cases v <;> simp only [matchV] at h <;> first | (cases h; done) | skip
    cases h; rfl
  | .ptr k o, v, hs, rest, h => by
    cases v <;> simp only [matchV] at h <;> first | (cases h; done) | skip
    rename_i k' o'
    cases hb : (Nat.beq k k' && Nat.beq o o') with
    | false => rw [hb] at h; cases h
    | true =>
      rw [hb] at h
      simp only [Bool.and_eq_true] at hb
      rw [beq_ok hb.1, beq_ok hb.2]
      cases h; rfl
  | .slc k, v, hs, rest, h => by
    cases v <;> simp only [matchV] at h <;> first | (cases h; done) | skip
    rename_i k'
    cases hb : Nat.beq k k' with
    | false => rw [hb] at h; cases h
    | true => rw [hb] at h; rw [beq_ok hb]; cases h; rfl
  | .mp k, v, hs, rest, h => by
    cases v <;> simp only [matchV] at h <;> first | (cases h; done) | skip
    rename_i k'
    cases hb : Nat.beq k k' with
    | false => rw [hb] at h; cases h
    | true => rw [hb] at h; rw [beq_ok hb]; cases h; rfl
  | .nil0, v, hs, rest, h => by
    cases v <;> simp only [matchV] at h <;> first | (cases h; done) | skip
    cases h; rfl
  | .nilp, v, hs, rest, h => by
    cases v <;> simp only [matchV] at h <;> first | (cases h; done) | skip
    cases h; rfl
  | .nilm, v, hs, rest, h => by
    cases v <;> simp only [matchV] at h <;> first | (cases h; done) | skip
    cases h; rfl
  | .nilf, v, hs, rest, h => by
    cases v <;> simp only [matchV] at h <;> first | (cases h; done) | skip
    cases h; rfl
  | .agg l, v, hs, rest, h => by
    cases v <;> simp only [matchV] at h <;> first | (cases h; done) | skip
    simp only [fillV, fillL_match l _ hs rest h]
  | .clos f l, v, hs, rest, h => by
    cases v <;> simp only [matchV] at h <;> first | (cases h; done) | skip
    rename_i f' l'
    cases hb : Nat.beq f f' with
    | false => rw [hb] at h; cases h
    | true =>
      rw [hb] at h
      rw [beq_ok hb]
      simp only [fillV, fillL_match l _ hs rest h]
  | .skp, v, hs, rest, h => by simp [matchV] at h
  | .ub, v, hs, rest, h => by simp [matchV] at h
  | .dat t x, v, hs, rest, h => by simp [matchV] at h
  | .ep k i o, v, hs, rest, h => by simp [matchV] at h
  | .fp t x, v, hs, rest, h => by simp [matchV] at h
  | .tup l, v, hs, rest, h => by simp [matchV] at h
theorem fillL_match : ∀ (p l : List FV) (hs rest : List FV), matchL p l = some hs → fillL p (hs ++ rest) = (l, rest)
  | [], l, hs, rest, h => by
    cases l <;> simp only [matchL] at h <;> first | (cases h; done) | skip
    cases h; rfl
  | p :: ps, l, hs, rest, h => by
    cases l with
    | nil => simp [matchL] at h
    | cons v l =>
      simp only [matchL] at h
      cases hv : matchV p v with
      | none => rw [hv] at h; cases h
      | some a =>
        rw [hv] at h
        cases hl : matchL ps l with
        | none => rw [hl] at h; cases h
        | some b =>
          rw [hl] at h
          cases h
          simp only [fillL, List.append_assoc, fillV_match p v a (b ++ rest) hv, fillL_match ps l b rest hl]
end

theorem fillR_match (p r : Reg) (hs rest : List FV) (h : matchR p r = some hs) : fillR p (hs ++ rest) = (r, rest) := by
  cases p with
  | box l =>
    cases r <;> simp only [matchR] at h <;> first | (cases h; done) | skip
    simp only [fillR, fillL_match l _ hs rest h]
  | arr t xs =>
    cases r <;> simp only [matchR] at h <;> first | (cases h; done) | skip
    split at h
    · cases h; rfl
    · cases h
  | frz t xs =>
    cases r <;> simp only [matchR] at h <;> first | (cases h; done) | skip
    split at h
    · cases h; rfl
    · cases h
  | map a b xs =>
    cases r <;> simp only [matchR] at h <;> first | (cases h; done) | skip
    split at h
    · cases h; rfl
    · cases h
  | abs => simp [matchR] at h
  | dead => simp [matchR] at h

theorem fillRs_match : ∀ (p l : List (Nat × Reg)) (hs rest : List FV), matchRs p l = some hs → fillRs p (hs ++ rest) = l
  | [], l, hs, rest, h => by
    cases l <;> simp only [matchRs] at h <;> first | (cases h; done) | rfl
  | (i, p) :: ps, l, hs, rest, h => by
    cases l with
    | nil => simp [matchRs] at h
    | cons q l =>
      obtain ⟨j, r⟩ := q
      simp only [matchRs] at h
      cases hb : Nat.beq i j with
      | false => rw [hb] at h; cases h
      | true =>
        rw [hb] at h
        simp only [cond_true] at h
        cases hv : matchR p r with
        | none => rw [hv] at h; cases h
        | some a =>
          rw [hv] at h
          cases hl : matchRs ps l with
          | none => rw [hl] at h; cases h
          | some b =>
            rw [hl] at h
            cases h
            rw [beq_ok hb]
            simp only [fillRs, List.append_assoc, fillR_match p r a (b ++ rest) hv, fillRs_match ps l b rest hl]

theorem fillF_match {p fr : Fr} {hs : List FV} (h : matchF p fr = some hs) : fr = fillF p hs := by
  unfold matchF at h
  cases h1 : matchL p.slots fr.slots with
  | none => rw [h1] at h; cases h
  | some a =>
    rw [h1] at h
    cases h2 : matchRs p.regs fr.regs with
    | none => rw [h2] at h; cases h
    | some b =>
      rw [h2] at h
      cases h
      unfold fillF
      rw [fillL_match _ _ a b h1]
      have := fillRs_match _ _ b [] h2
      rw [List.append_nil] at this
      simp only [this]

/-- A contract: on frames of a form. -/
def genS (md : List Bool) (ret : Bool) (pat : Fr) (ts : List Tc) (ok : Tup ts → Bool) (out : Tup ts → Fr) : Spec where
  md := md
  ret := ret
  ok := fun pk => match matchF pat pk with
    | some hs => match dats ts hs with
      | some x => ok x
      | none => false
    | none => false
  fn := fun pk => match matchF pat pk with
    | some hs => match dats ts hs with
      | some x => some (out x)
      | none => none
    | none => none

theorem gen_of {P : Program} {G : (Nat → Prop) → Array Obj → Prop} {f : FuncId} {md : List Bool} {ret : Bool} {pat : Fr} {ts : List Tc} {ok : Tup ts → Bool} {out : Tup ts → Fr} (R : Fr → Fr → Prop)
    (h : ∀ x, ok x = true → R (fillF pat (undats ts x)) (out x)) : ∀ pk o, (genS md ret pat ts ok out).ok pk = true → (genS md ret pat ts ok out).fn pk = some o → R pk o := by
  intro pk o hok hout
  simp only [genS] at hok hout
  cases hm : matchF pat pk with
  | none => rw [hm] at hok; cases hok
  | some hs =>
    rw [hm] at hok hout
    simp only at hok hout
    cases hd : dats ts hs with
    | none => rw [hd] at hok; cases hok
    | some x =>
      rw [hd] at hok hout
      simp only [Option.some.injEq] at hok hout
      have e1 := fillF_match hm
      have e2 := dats_some ts hs x hd
      rw [e1, e2, ← hout]
      exact h x hok

theorem gen_sound {P : Program} (I : FnI) (hE : EnvOk P I.E) (hm : P.follows .mixedOrders = true) {f : FuncId} (hf : P.funcs[f]? = some I.fn) (hbody : I.fn.body = some I.code)
    (hn : (I.fn.name == "runtime.NumGoroutine") = false) {md : List Bool} {ret : Bool} {pat : Fr} {ts : List Tc} {ok : Tup ts → Bool} {out : Tup ts → Fr}
    (h : ∀ x, ok x = true → I.run (fillF pat (undats ts x)) = some (out x)) : Sound P I.E.gl f (genS md ret pat ts ok out) ∧ Enters P f :=
  ⟨I.sound hE hm hf hbody (gen_of (P := P) (G := I.E.gl) (f := f) (fun pk o => I.run pk = some o) h), enters_of hf hbody hn⟩

/-- Two contracts of one function. -/
def orS (s1 s2 : Spec) : Spec := ⟨s1.md, s1.ret, fun pk => s1.ok pk || s2.ok pk, fun pk => cond (s1.ok pk) (s1.fn pk) (s2.fn pk)⟩

theorem or_sound {P : Program} {G : (Nat → Prop) → Array Obj → Prop} {f : FuncId} {s1 s2 : Spec} (h1 : Sound P G f s1) (h2 : Sound P G f s2) : Sound P G f (orS s1 s2) := by
  intro pk out hok hout
  simp only [orS] at hok hout
  cases hb : s1.ok pk with
  | true => rw [hb] at hout; exact h1 pk out hb hout
  | false =>
    rw [hb] at hok hout
    exact h2 pk out (by simpa using hok) hout

theorem omap_cond {α β : Type} (q : Bool) (a b : Option α) (f : α → β) : (cond q a b).map f = cond q (a.map f) (b.map f) := by cases q <;> rfl
theorem fst_cond {α β : Type} (q : Bool) (a b : α × β) : (cond q a b).1 = cond q a.1 b.1 := by cases q <;> rfl
theorem snd_cond {α β : Type} (q : Bool) (a b : α × β) : (cond q a b).2 = cond q a.2 b.2 := by cases q <;> rfl

/-! ### what is known of a program -/
def ttOf : List (Nat × TI) → Nat → Option TI
  | [], _ => none
  | (i, t) :: l, k => cond (Nat.beq i k) (some t) (ttOf l k)

theorem ttOf_mem : ∀ (l : List (Nat × TI)) (k : Nat) (t : TI), ttOf l k = some t → (k, t) ∈ l
  | [], k, t, h => by cases h
  | (i, x) :: l, k, t, h => by
    simp only [ttOf] at h
    cases hb : Nat.beq i k with
    | true =>
      rw [hb] at h
      have := Nat.eq_of_beq_eq_true hb
      cases h; subst this; simp
    | false => rw [hb] at h; exact List.mem_cons_of_mem _ (ttOf_mem l k t h)

def Env.add (E : Env) (f : FuncId) (s : Spec) : Env := ⟨E.tt, fun g => cond (Nat.beq g f) (some s) (E.fs g), E.gl⟩

theorem env_nil {P : Program} {l : List (Nat × TI)} (h : (l.all fun p => okTI P p.1 p.2) = true) : EnvOk P ⟨ttOf l, fun _ => none, fun _ _ => True⟩ :=
  ⟨fun t ti ht => okTI_spec (List.all_eq_true.1 h _ (ttOf_mem l t ti ht)), (fun f s hs => by cases hs), fun _ _ _ _ _ _ => trivial⟩

theorem env_add {P : Program} {E : Env} (hE : EnvOk P E) {f : FuncId} {s : Spec} (h : Sound P E.gl f s ∧ Enters P f) : EnvOk P (E.add f s) :=
  ⟨hE.tts, fun g t ht => by
    simp only [Env.add] at ht
    cases hb : Nat.beq g f with
    | true =>
      rw [hb] at ht
      have := Nat.eq_of_beq_eq_true hb
      cases ht; subst this; exact h
    | false => rw [hb] at ht; exact hE.fss g t ht, hE.gm⟩

theorem env_or {P : Program} {E : Env} (hE : EnvOk P E) {f : FuncId} {s1 s2 : Spec} (h1 : E.fs f = some s1) (h : Sound P E.gl f s2 ∧ Enters P f) : EnvOk P (E.add f (orS s1 s2)) :=
  env_add hE ⟨or_sound (hE.fss f s1 h1).1 h.1, h.2⟩

end Go.Ev

set_option linter.unusedSimpArgs false
set_option linter.unusedVariables false
namespace Go.Ev
open Go

/-! ### numbers of loops -/
theorem dlt {i n : Nat} (h : i < n) : decide ((i : Int) < (n : Int)) = true := by simp; omega
theorem dlt_not {i n : Nat} (h : n ≤ i) : decide ((i : Int) < (n : Int)) = false := by simp; omega
theorem dle0 (i : Nat) : decide ((0 : Int) ≤ (i : Int)) = true := by simp
theorem wrap_in {x : Int} (h1 : -9223372036854775808 ≤ x) (h2 : x ≤ 9223372036854775807) : wrap .i64 x = x := by
  unfold wrap; rw [IntKind.wrap_i64]; omega
theorem wsucc {i : Nat} (h : i ≤ 4611686018427387904) : wrap .i64 ((i : Int) + 1) = ((i + 1 : Nat) : Int) := by
  rw [wrap_in (by omega) (by omega)]; simp
theorem wrap_range (x : Int) : -9223372036854775808 ≤ wrap .i64 x ∧ wrap .i64 x ≤ 9223372036854775807 := by
  unfold wrap; rw [IntKind.wrap_i64]; omega
theorem getN {α : Type} (xs : List α) (i : Nat) (d : α) (h : i < xs.length) : List.getD xs (Int.toNat (i : Int)) d = xs[i] := by
  rw [Int.toNat_natCast, List.getD_eq_getElem?_getD, List.getElem?_eq_getElem h]; rfl
theorem getI {α : Type} (xs : List α) (i : Int) (d : α) (h0 : 0 ≤ i) (h : i.toNat < xs.length) : List.getD xs (Int.toNat i) d = xs[i.toNat] := by
  rw [List.getD_eq_getElem?_getD, List.getElem?_eq_getElem h]; rfl
theorem dcons {α : Type} {xs : List α} {i : Nat} (h : i < xs.length) : xs.drop i = xs[i] :: xs.drop (i + 1) := List.drop_eq_getElem_cons h
theorem dnil {α : Type} {xs : List α} {i : Nat} (h : xs.length ≤ i) : xs.drop i = [] := List.drop_eq_nil_of_le h
theorem condT {α : Type} {q : Bool} {a b : α} (h : q = true) : cond q a b = a := by rw [h]; rfl
theorem condF {α : Type} {q : Bool} {a b : α} (h : q = false) : cond q a b = b := by rw [h]; rfl
/-- A condition of which both ways lead to one result. -/
theorem condB {α : Type} {q : Bool} {a b c : α} (h1 : q = true → a = c) (h2 : q = false → b = c) : cond q a b = c := by
  cases q
  · exact h2 rfl
  · exact h1 rfl

/-! ### that a run ends -/
def Ends (Q : Fr → Prop) (o : Option Fr) : Prop := ∃ f, o = some f ∧ Q f
theorem ends_some {Q : Fr → Prop} {f : Fr} (h : Q f) : Ends Q (some f) := ⟨f, rfl, h⟩
theorem ends_cond {Q : Fr → Prop} {c : Bool} {a b : Option Fr} (h1 : c = true → Ends Q a) (h2 : c = false → Ends Q b) : Ends Q (cond c a b) := by
  cases c
  · exact h2 rfl
  · exact h1 rfl
theorem ends_if {Q : Fr → Prop} {c : Bool} {a : Option Fr} (h : c = true) (h2 : Ends Q a) : Ends Q (cond c a none) := by rw [h]; exact h2
theorem ends_mono {Q R : Fr → Prop} {o : Option Fr} (h : Ends Q o) (hm : ∀ f, Q f → R f) : Ends R o := by
  obtain ⟨f, h1, h2⟩ := h
  exact ⟨f, h1, hm f h2⟩
theorem dT {p : Prop} [Decidable p] (h : p) : decide p = true := by simp [h]
theorem dF {p : Prop} [Decidable p] (h : ¬ p) : decide p = false := by simp [h]

end Go.Ev

set_option linter.unusedVariables false
set_option linter.unusedSimpArgs false
set_option maxRecDepth 100000
namespace Go.Ev.N
open Go Go.Ev

abbrev tPrgm : Tc := (.st (.pair (.slice (.st (.pair .str (.pair .str (.pair tI (.slice .str)))))) (.pair tI (.pair tI (.pair tI tI)))))
abbrev Prgm : Type := (List (Bytes × (Bytes × (Int × (List Bytes))))) × (Int × (Int × (Int × Int)))
abbrev tItem : Tc := (.st (.pair .str (.pair .str (.pair tI (.slice .str)))))
abbrev Item : Type := Bytes × (Bytes × (Int × (List Bytes)))
abbrev tWindow : Tc := (.st (.pair tI tI))
abbrev Window : Type := Int × Int
abbrev tTimed : Tc := (.st (.pair .str (.st (.pair tI tI))))
abbrev Timed : Type := Bytes × (Int × Int)
/-! ### the stream of numbers, and small things -/
def outside (n lo hi : Int) : Bool := decide (n < lo) || decide (n > hi)
def inR (n lo hi : Int) : Bool := decide (lo ≤ n) && decide (n ≤ hi)
def below (x n : Int) : Int := cond (decide (n < 1)) 0 (cond (decide (x.tmod n < 0)) (wrap .i64 (x.tmod n + n)) (x.tmod n))
def idxGo (x : Int) : List Int → Nat → Int
  | [], _ => -1
  | y :: l, i => cond (x == y) (i : Int) (idxGo x l (i + 1))
def indexI (l : List Int) (x : Int) : Int := idxGo x l 0
def containsI (l : List Int) (x : Int) : Bool := decide (indexI l x ≥ 0)
def mx (a b : Int) : Int := if a < b then b else a
def equalI (a b : List Int) : Bool := a == b
def atOk (k at_ : Int) : Bool := decide (0 ≤ at_) && decide (at_ + k ≤ 1099511627776)
def nextAt (at_ : Int) : Int := wrap .i64 (at_ + 1)
def rawNext (L : List Int) (at_ : Int) : Int := cond ((L.length : Int) == 0) (wrap .i64 (wrap .i64 (at_ + 1) * 7919))
  (wrap .i64 (below (L.getD (Int.toNat (Int.tmod at_ L.length)) (Tc.dflt tI)) 1073741824 + wrap .i64 (wrap .i64 (Int.tdiv at_ L.length) * wrap .i64 (7919 + Int.tmod at_ L.length))))
def next (L : List Int) (at_ n : Int) : Int := below (rawNext L at_) n
def pick (L : List Int) (at_ : Int) (l : List Int) : Int := l.getD (Int.toNat (next L at_ l.length)) (Tc.dflt tI)
def rangeAt (at_ lo hi : Int) : Int := cond (decide (hi < lo)) at_ (nextAt at_)
def rangeS (L : List Int) (at_ lo hi : Int) : Int := cond (decide (hi < lo)) lo (wrap .i64 (lo + next L at_ (wrap .i64 (wrap .i64 (hi - lo) + 1))))
def oddL (lo hi : Int) : List Int := [wrap .i64 (lo - 1), wrap .i64 (hi + 1), lo, hi, -1099511627776, 1099511627776]
def oddS (L : List Int) (at_ lo hi : Int) : Int × Int := cond (next L at_ 12 == 0) (nextAt (nextAt at_), pick L (nextAt at_) (oddL lo hi)) (rangeAt (nextAt at_) lo hi, rangeS L (nextAt at_) lo hi)
def some_ (L : List Int) (at_ : Int) (l : List Bytes) : Bytes := l.getD (Int.toNat (next L at_ l.length)) (Tc.dflt .str)
def idxBy {α : Type} (p : α → Bool) : List α → Nat → Int
  | [], _ => -1
  | x :: l, i => cond (p x) (i : Int) (idxBy p l (i + 1))
def indexB (s : Bytes) (c : Int) : Int := Lib.indexByte s c.toNat.toUInt8
def trimB (s cs : Bytes) : Bytes := Lib.trimS s cs
def trimOk (s cs : Bytes) : Bool := decide (s.length ≤ 1000000) && decide (cs.length ≤ 1000) && cs.all fun b => decide (b.toNat < 128)
def smallsB : Bytes := [97, 98, 99, 100, 101, 102, 103, 104, 105, 106, 107, 108, 109, 110, 111, 112, 113, 114, 115, 116, 117, 118, 119, 120, 121, 122]
def keyB : Bytes := [97, 98, 99, 100, 101, 102, 103, 104, 105, 106, 107, 108, 109, 110, 111, 112, 113, 114, 115, 116, 117, 118, 119, 120, 121, 122, 48, 49, 50, 51, 52, 53, 54, 55, 56, 57, 45, 95]
def isKey (s : Bytes) : Bool := !(s == []) && decide ((s.length : Int) ≤ 40) && decide (indexB smallsB ((s.getD 0 0).toNat : Int) ≥ 0) && (trimB s keyB == [])
def onlyB (s cs : Bytes) : Bool := s.all fun b => !decide (indexB cs (b.toNat : Int) < 0)
def keyR (s : Bytes) : Bool := inR (s.length : Int) 1 40 && onlyB (s.take 1) smallsB && onlyB s keyB
def notAfter (prev : Option Bytes) (p : Bytes) : Bool := match prev with
  | some q => bLess p q || p == q
  | none => false
def risingGo (key : Bytes → Bool) (prev : Option Bytes) : List Bytes → Int
  | [] => 0
  | p :: l => cond (!key p) 5 (cond (notAfter prev p) 7 (risingGo key (some p) l))
def partsF (key : Bytes → Bool) (l : List Bytes) : Int := cond ((l.length : Int) == 0) 8 (cond (decide ((l.length : Int) > 12)) 2 (risingGo key none l))
def itemsGo (key : Bytes → Bool) (pre : List Item) : List Item → Int
  | [] => 0
  | x :: l => cond (!key x.1 || !key x.2.1) 5 (cond (pre.any fun o => o.1 == x.1) 6 (cond (outside x.2.2.1 1 86400000) 1 (cond (partsF key x.2.2.2 != 0) (partsF key x.2.2.2) (itemsGo key (pre ++ [x]) l))))
def checkItems (key : Bytes → Bool) (l : List Item) : Int := cond (decide ((l.length : Int) > 60)) 2 (itemsGo key [] l)
def checkProg (key : Bytes → Bool) (p : Prgm) : Int := cond (checkItems key p.1 != 0) (checkItems key p.1)
  (cond (outside p.2.1 0 86400000 || outside p.2.2.1 0 86400000 || outside p.2.2.2.1 0 86400000 || outside p.2.2.2.2 (-1) (mx (-1) (wrap .i64 ((p.1.length : Int) - 2)))) 1 0)
def gapAt (p : Prgm) (i : Int) (x y : Item) : Int := cond (i == p.2.2.2.2) p.2.2.2.1 (cond (!(x.2.1 == y.2.1)) p.2.1 p.2.2.1)
def behindF (p : Prgm) (i : Int) : Int := gapAt p i (p.1.getD i.toNat (Tc.dflt tItem)) (p.1.getD (i + 1).toNat (Tc.dflt tItem))
def begGo (p : Prgm) : Int → Int → List Item → List Int × Int
  | _, at_, [] => ([], at_)
  | _, at_, [x] => ([at_], wrap .i64 (at_ + x.2.2.1))
  | i, at_, x :: y :: l => (at_ :: (begGo p (i + 1) (wrap .i64 (wrap .i64 (at_ + x.2.2.1) + gapAt p i x y)) (y :: l)).1, (begGo p (i + 1) (wrap .i64 (wrap .i64 (at_ + x.2.2.1) + gapAt p i x y)) (y :: l)).2)
def timGo (p : Prgm) : Int → Int → List Item → List Timed
  | _, _, [] => []
  | _, f, [x] => [(x.1, (f, wrap .i64 (f + x.2.2.1)))]
  | i, f, x :: y :: l => (x.1, (f, wrap .i64 (f + x.2.2.1))) :: timGo p (i + 1) (wrap .i64 (wrap .i64 (f + x.2.2.1) + gapAt p i x y)) (y :: l)
def ttGo (f : Int) : List Int → List Item → List Timed
  | b :: bs, x :: l => (x.1, (wrap .i64 (f + b), wrap .i64 (wrap .i64 (f + b) + x.2.2.1))) :: ttGo f bs l
  | _, _ => []
def chGo (half : Int) : Int → List Item → Int → Int
  | i, x :: y :: l, n => chGo half (i + 1) (y :: l) (cond (i != half && !(x.2.1 == y.2.1)) (wrap .i64 (n + 1)) n)
  | _, _, n => n
def isMom (n : Int) : Bool := !outside n 0 345686399999
def fromF (p : Prgm) (f : Int) : Int := cond (checkProg isKey p != 0) (checkProg isKey p) (cond (!isMom f || decide (wrap .i64 (f + (begGo p 0 0 p.1).2) > 345686400000)) 1 0)
def timetable (p : Prgm) (f : Int) : List Timed × Int := cond (fromF p f != 0) ([], fromF p f) (ttGo f (begGo p 0 0 p.1).1 p.1, 0)
def longP (p : Prgm) : Int × Int := cond (checkProg isKey p != 0) (0, checkProg isKey p) ((begGo p 0 0 p.1).2, 0)
def changes (p : Prgm) : Int × Int := cond (checkProg isKey p != 0) (0, checkProg isKey p) (chGo p.2.2.2.2 0 p.1 0, 0)
def longR (p : Prgm) : Int := match (timGo p 0 0 p.1).getLast? with
  | some t => t.2.2
  | none => 0
def beginF (p : Prgm) (f : Int) : Int := cond (!inR f 0 345686399999 || decide (wrap .i64 (f + longR p) > 345686400000)) 1 0
def firstE : List Int → Int
  | [] => 0
  | e :: l => cond (!(e == 0)) e (firstE l)
def cmpI (x y : Int) : Int := cond (decide (x < y)) (-1) (cond (decide (x > y)) 1 0)
def cmpGo : List Int → List Int → Int
  | [], [] => 0
  | [], _ :: _ => -1
  | _ :: _, [] => 1
  | x :: l, y :: m => cond (!(cmpI x y == 0)) (cmpI x y) (cmpGo l m)
def swapG {α : Type} (l : List α) (j : Nat) : List α := match l[j]?, l[j + 1]? with
  | some a, some b => (l.set (j + 1) a).set j b
  | _, _ => l
def ltG {α : Type} (lt : α → α → Bool) (l : List α) (j : Nat) : Bool := match l[j + 1]?, l[j]? with
  | some b, some a => lt b a
  | _, _ => false
def sinkG {α : Type} (lt : α → α → Bool) : Nat → List α → List α
  | 0, l => l
  | j + 1, l => cond (ltG lt l j) (sinkG lt j (swapG l j)) l
def sortGoG {α : Type} (lt : α → α → Bool) : Nat → Nat → List α → List α
  | 0, _, l => l
  | m + 1, i, l => sortGoG lt m (i + 1) (sinkG lt i l)
def sortG {α : Type} (lt : α → α → Bool) (l : List α) : List α := sortGoG lt (l.length - 1) 1 l
def bitS (set : Int) (i : Nat) : Bool := (wrap .i64 ((BitVec.ofInt (IntKind.bits .i64) (Int.fdiv set (2 ^ (min (Int.toNat (i : Int)) (IntKind.bits .i64)))) &&& BitVec.ofInt (IntKind.bits .i64) (1 : Int)).toNat : Int)) == (1 : Int)
def selI (set : Int) : List Item → Nat → List Item
  | [], _ => []
  | x :: l, i => cond (bitS set i) (x :: selI set l (i + 1)) (selI set l (i + 1))
def selP (set : Int) : List Item → Nat → List Int
  | [], _ => []
  | _ :: l, i => cond (bitS set i) ((i : Int) :: selP set l (i + 1)) (selP set l (i + 1))
def alone (p : Prgm) (its : List Item) : Prgm := (its, (p.2.1, (p.2.2.1, (p.2.2.2.1, -1))))
def fitL (p : Prgm) (its : List Item) : Int := (begGo (alone p its) 0 0 its).2
def fitB (best : List Int) (longest most : Int) (pl : List Int) (long : Int) : Bool := decide (long ≤ most) && (decide (best.length < pl.length) || (decide (pl.length = best.length) && (decide (long > longest) || (long == longest && decide (cmpGo pl best < 0)))))
def fitGo (p : Prgm) (most : Int) : Nat → Nat → List Int → Int → List Int
  | 0, _, best, _ => best
  | m + 1, set, best, longest => cond (fitB best longest most (selP set p.1 0) (fitL p (selI set p.1 0))) (fitGo p most m (set + 1) (selP set p.1 0) (fitL p (selI set p.1 0))) (fitGo p most m (set + 1) best longest)
def keyAt (xs : List Item) (i : Int) : Bytes := (xs.getD i.toNat (Tc.dflt tItem)).1
def fitR (p : Prgm) (most : Int) : List Bytes := (fitGo p most (2 ^ p.1.length) 0 [] 0).map (keyAt p.1)
def fitF (p : Prgm) (most : Int) : List Bytes × Int := cond (checkProg isKey p != 0) ([], checkProg isKey p) (cond (outside most 0 5184000000) ([], 1) (fitR p most, 0))
def lastI (p : Prgm) : Item := p.1.getD (p.1.length - 1) (Tc.dflt tItem)
def encL (p : Prgm) (x : Item) : Int := cond (!(x.2.1 == (lastI p).2.1)) (wrap .i64 (x.2.2.1 + p.2.1)) (wrap .i64 (x.2.2.1 + p.2.2.1))
def encLt (p : Prgm) (x y : Item) : Bool := decide (wrap .i64 (encL p y - encL p x) < 0)
def encR (p : Prgm) (left : Int) : List Bytes := (sortG (encLt p) (p.1.filter fun x => !decide (encL p x > left))).map fun o => o.1
def encF (p : Prgm) (left : Int) : List Bytes × Int := cond (checkProg isKey p != 0) ([], checkProg isKey p) (cond (outside left 0 86400000) ([], 1) (cond ((p.1.length : Int) == 0) ([], 8) (encR p left, 0)))
def partsOk (l : List Item) : Bool := l.all fun x => decide (x.2.2.2.length ≤ 1000)
def idxS (x : Bytes) : List Bytes → Nat → Int
  | [], _ => -1
  | y :: l, i => cond (x == y) (i : Int) (idxS x l (i + 1))
def hasS (l : List Bytes) (x : Bytes) : Bool := decide (idxS x l 0 ≥ 0)
def itemIx (xs : List Item) (k : Bytes) : Int := idxBy (fun (o : Item) => o.1 == k) xs 0
def ddS : Bytes → List Bytes → List Bytes
  | _, [] => []
  | a, b :: l => cond (b == a) (ddS b l) (b :: ddS b l)
def compS : List Bytes → List Bytes
  | [] => []
  | a :: l => a :: ddS a l
def sortB (l : List Bytes) : List Bytes := l.mergeSort fun x y => decide (x ≤ y)
def allP (l : List Item) : List Bytes := l.flatMap fun x => x.2.2.2
def partsR (l : List Item) : List Bytes := compS (sortB (allP l))
def lateR (p : Prgm) (f : Int) (k : Bytes) (at_ : Int) : Int := wrap .i64 (at_ - ((timGo p 0 f p.1).getD (itemIx p.1 k).toNat (Tc.dflt tTimed)).2.1)
def lateF (p : Prgm) (f : Int) (k : Bytes) (at_ : Int) : Int × Int := cond (fromF p f != 0) (0, fromF p f) (cond (decide (itemIx p.1 k < 0)) (0, 8) (cond (!isMom at_) (0, 1)
  (wrap .i64 (wrap .i64 (at_ - f) - (begGo p 0 0 p.1).1.getD (itemIx p.1 k).toNat 0), 0)))
def sangP (ps : List Bytes) (es : List (Bytes × Bool)) : List (Bytes × Bool) := ps.foldl (fun es s => mapPut .str .bool s true es) es
def newP (ps : List Bytes) (es : List (Bytes × Bool)) : Bool := ps.any fun s => !((mapFind .str .bool s es).getD (Tc.dflt .bool))
def lvGo (f at_ : Int) : List Item → List Int → List (Bytes × Bool) → List Bytes
  | x :: l, b :: bs, es => cond (newP x.2.2.2 es && decide (wrap .i64 (wrap .i64 (f + b) + x.2.2.1) > at_)) (x.1 :: lvGo f at_ l bs (sangP x.2.2.2 es)) (lvGo f at_ l bs (sangP x.2.2.2 es))
  | _, _, _ => []
def leavesF (p : Prgm) (f at_ : Int) : List Bytes × Int := cond (fromF p f != 0) ([], fromF p f) (cond (!isMom at_) ([], 1) (lvGo f at_ p.1 (begGo p 0 0 p.1).1 [], 0))
def lvRGo (p : Prgm) (at_ : Int) : List Timed → Nat → List Bytes
  | [], _ => []
  | t :: l, i => cond (decide (t.2.2 > at_) && (p.1.getD i (Tc.dflt tItem)).2.2.2.any fun k => !hasS (partsR (p.1.take i)) k) (t.1 :: lvRGo p at_ l (i + 1)) (lvRGo p at_ l (i + 1))
def lvR (p : Prgm) (f at_ : Int) : List Bytes := lvRGo p at_ (timGo p 0 f p.1) 0
def sameF (a b : Item) : Bool := a.2.1 == b.2.1 && (a.2.2.1 == b.2.2.1 && a.2.2.2 == b.2.2.2)
def itAt (ys : List Item) (x : Item) : Item := ys.getD (itemIx ys x.1).toNat (Tc.dflt tItem)
def goneF (xs ys : List Item) : List Bytes := (xs.filter fun x => decide (itemIx ys x.1 < 0)).map fun x => x.1
def otherF (xs ys : List Item) : List Bytes := (xs.filter fun x => !decide (itemIx ys x.1 < 0) && !sameF x (itAt ys x)).map fun x => x.1
def otherR (xs ys : List Item) : List Bytes := (xs.filter fun x => !decide (itemIx ys x.1 < 0) && !(x == itAt ys x)).map fun x => x.1
def difF (a b : Prgm) : List Bytes × List Bytes × List Bytes × Int := cond (checkProg isKey a != 0) ([], ([], ([], checkProg isKey a))) (cond (checkProg isKey b != 0) ([], ([], ([], checkProg isKey b)))
  (goneF a.1 b.1, (goneF b.1 a.1, (otherF a.1 b.1, 0))))

def t5 (L : (List Int)) (at_ : Int) : Option (Int × Int) := (cond (atOk 1 at_ && decide (0 < List.length [(0 : Int), (0 : Int), (100 : Int), (1000 : Int), (-1 : Int), (345686399500 : Int), (345686400000 : Int)]) && decide (List.length [(0 : Int), (0 : Int), (100 : Int), (1000 : Int), (-1 : Int), (345686399500 : Int), (345686400000 : Int)] ≤ 1000)) (some ((pick L at_ [(0 : Int), (0 : Int), (100 : Int), (1000 : Int), (-1 : Int), (345686399500 : Int), (345686400000 : Int)]), (nextAt at_))) none)
def t5_ok (L : (List Int)) (at_ : Int) : Bool := (t5 L at_).isSome
def t5_0 (L : (List Int)) (at_ : Int) : Int := ((t5 L at_).getD ((Tc.dflt tI), (Tc.dflt tI))).1
def t5_1 (L : (List Int)) (at_ : Int) : Int := ((t5 L at_).getD ((Tc.dflt tI), (Tc.dflt tI))).2
def t31 (a0 : Int) : Bool := (!(outside a0 (0 : Int) (345686399999 : Int)))
def t31_0 (a0 : Int) : Bool := (t31 a0)
def t61 (a0 : Prgm) (a1 : Item) (a2 : Item) : Int := (cond (!(a1.2.1 == a2.2.1)) a0.2.1 a0.2.2.1)
def t61_0 (a0 : Prgm) (a1 : Item) (a2 : Item) : Int := (t61 a0 a1 a2)
def t64 (a0 : Item) (k : Bytes) (pl : Bytes) (lg : Int) (ps : (List Bytes)) : Bool := (a0.1 == k)
def t64_0 (a0 : Item) (k : Bytes) (pl : Bytes) (lg : Int) (ps : (List Bytes)) : Bool := (t64 a0 k pl lg ps)
def t63 (a0 : (List Item)) (k : Bytes) (pl : Bytes) (lg : Int) (ps : (List Bytes)) : Option (Bool) := (cond (decide (List.length a0 ≤ 1000)) (some (decide ((idxBy (fun o => t64_0 o k pl lg ps) a0 0) ≥ (0 : Int)))) none)
def t63_ok (a0 : (List Item)) (k : Bytes) (pl : Bytes) (lg : Int) (ps : (List Bytes)) : Bool := (t63 a0 k pl lg ps).isSome
def t63_0 (a0 : (List Item)) (k : Bytes) (pl : Bytes) (lg : Int) (ps : (List Bytes)) : Bool := ((t63 a0 k pl lg ps).getD ((Tc.dflt .bool)))
def t50 (a0 : Item) (k : Bytes) : Bool := (a0.1 == k)
def t50_0 (a0 : Item) (k : Bytes) : Bool := (t50 a0 k)
def t30 (a0 : Prgm) (a1 : Bytes) : Option (Int) := (cond (decide (List.length a0.1 ≤ 1000)) (some (idxBy (fun o => t50_0 o a1) a0.1 0)) none)
def t30_ok (a0 : Prgm) (a1 : Bytes) : Bool := (t30 a0 a1).isSome
def t30_0 (a0 : Prgm) (a1 : Bytes) : Int := ((t30 a0 a1).getD ((Tc.dflt tI)))
def t34 (a0 : Bytes) (es : (List (Bytes × Bool))) : Bool := (!(Option.getD (mapFind .str .bool a0 es) (Tc.dflt .bool)))
def t34_0 (a0 : Bytes) (es : (List (Bytes × Bool))) : Bool := (t34 a0 es)
def t33 (a0 : (List Bytes)) (es : (List (Bytes × Bool))) : Option (Bool) := (cond (decide (List.length a0 ≤ 1000)) (some (decide ((idxBy (fun o => t34_0 o es) a0 0) ≥ (0 : Int)))) none)
def t33_ok (a0 : (List Bytes)) (es : (List (Bytes × Bool))) : Bool := (t33 a0 es).isSome
def t33_0 (a0 : (List Bytes)) (es : (List (Bytes × Bool))) : Bool := ((t33 a0 es).getD ((Tc.dflt .bool)))
def t42 (a0 : Item) (k : Bytes) : Bool := (a0.1 == k)
def t42_0 (a0 : Item) (k : Bytes) : Bool := (t42 a0 k)
def t19 (a0 : (List Item)) (a1 : Bytes) : Option (Int) := (cond (decide (List.length a0 ≤ 1000)) (some (idxBy (fun o => t42_0 o a1) a0 0)) none)
def t19_ok (a0 : (List Item)) (a1 : Bytes) : Bool := (t19 a0 a1).isSome
def t19_0 (a0 : (List Item)) (a1 : Bytes) : Int := ((t19 a0 a1).getD ((Tc.dflt tI)))
def t39 (a0 : Int) : Bool := (inR a0 (0 : Int) (345686399999 : Int))
def t39_0 (a0 : Int) : Bool := (t39 a0)
def t17 (a0 : Int) : Int := (cond (!(t39_0 a0)) (1 : Int) (0 : Int))
def t17_0 (a0 : Int) : Int := (t17 a0)
def t18 (a0 : Bool) (a1 : Int) : Int := (cond a0 a1 (0 : Int))
def t18_0 (a0 : Bool) (a1 : Int) : Int := (t18 a0 a1)
def t45 (a0 : Bytes) (bef : (List Bytes)) : Option (Bool) := (cond (decide (List.length bef ≤ 1000000)) (some (!(hasS bef a0))) none)
def t45_ok (a0 : Bytes) (bef : (List Bytes)) : Bool := (t45 a0 bef).isSome
def t45_0 (a0 : Bytes) (bef : (List Bytes)) : Bool := ((t45 a0 bef).getD ((Tc.dflt .bool)))
def t33a (a0 : (List Bytes)) (bef : (List Bytes)) : Option (Bool) := (cond (decide (List.length a0 ≤ 1000) && decide (List.length bef ≤ 1000000)) (some (decide ((idxBy (fun o => t45_0 o bef) a0 0) ≥ (0 : Int)))) none)
def t33a_ok (a0 : (List Bytes)) (bef : (List Bytes)) : Bool := (t33a a0 bef).isSome
def t33a_0 (a0 : (List Bytes)) (bef : (List Bytes)) : Bool := ((t33a a0 bef).getD ((Tc.dflt .bool)))
def t95 (a0 : Bytes) : Bool := (!(a0 == a0))
def t95_0 (a0 : Bytes) : Bool := (t95 a0)
def t77 (a0 : Bytes) (a1 : Bytes) : Bool := (cond (t95_0 a0) (cond (!(t95_0 a1)) true (bLess a0 a1)) (bLess a0 a1))
def t77_0 (a0 : Bytes) (a1 : Bytes) : Bool := (t77 a0 a1)
def t80 (a0 : Int) : Option (Int) := (cond (decide (a0 ≥ (65536 : Int))) (cond (decide ((16 : Int) < 0)) none (cond (decide ((Int.fdiv a0 (2 ^ (min (Int.toNat (16 : Int)) (IntKind.bits .u32)))) ≥ (256 : Int))) (cond (decide ((8 : Int) < 0)) none (cond (decide ((0 : Int) ≤ (wrap .u8 (Int.fdiv (Int.fdiv a0 (2 ^ (min (Int.toNat (16 : Int)) (IntKind.bits .u32)))) (2 ^ (min (Int.toNat (8 : Int)) (IntKind.bits .u32))))))) (cond (decide ((wrap .u8 (Int.fdiv (Int.fdiv a0 (2 ^ (min (Int.toNat (16 : Int)) (IntKind.bits .u32)))) (2 ^ (min (Int.toNat (8 : Int)) (IntKind.bits .u32))))) < ((List.length [0, 1, 2, 2, 3, 3, 3, 3, 4, 4, 4, 4, 4, 4, 4, 4, 5, 5, 5, 5, 5, 5, 5, 5, 5, 5, 5, 5, 5, 5, 5, 5, 6, 6, 6, 6, 6, 6, 6, 6, 6, 6, 6, 6, 6, 6, 6, 6, 6, 6, 6, 6, 6, 6, 6, 6, 6, 6, 6, 6, 6, 6, 6, 6, 7, 7, 7, 7, 7, 7, 7, 7, 7, 7, 7, 7, 7, 7, 7, 7, 7, 7, 7, 7, 7, 7, 7, 7, 7, 7, 7, 7, 7, 7, 7, 7, 7, 7, 7, 7, 7, 7, 7, 7, 7, 7, 7, 7, 7, 7, 7, 7, 7, 7, 7, 7, 7, 7, 7, 7, 7, 7, 7, 7, 7, 7, 7, 7, 8, 8, 8, 8, 8, 8, 8, 8, 8, 8, 8, 8, 8, 8, 8, 8, 8, 8, 8, 8, 8, 8, 8, 8, 8, 8, 8, 8, 8, 8, 8, 8, 8, 8, 8, 8, 8, 8, 8, 8, 8, 8, 8, 8, 8, 8, 8, 8, 8, 8, 8, 8, 8, 8, 8, 8, 8, 8, 8, 8, 8, 8, 8, 8, 8, 8, 8, 8, 8, 8, 8, 8, 8, 8, 8, 8, 8, 8, 8, 8, 8, 8, 8, 8, 8, 8, 8, 8, 8, 8, 8, 8, 8, 8, 8, 8, 8, 8, 8, 8, 8, 8, 8, 8, 8, 8, 8, 8, 8, 8, 8, 8, 8, 8, 8, 8, 8, 8, 8, 8, 8, 8, 8, 8, 8, 8, 8, 8] : Nat) : Int))) (some (wrap .i64 ((wrap .i64 ((16 : Int) + (8 : Int))) + (wrap .i64 ((UInt8.toNat (List.getD [0, 1, 2, 2, 3, 3, 3, 3, 4, 4, 4, 4, 4, 4, 4, 4, 5, 5, 5, 5, 5, 5, 5, 5, 5, 5, 5, 5, 5, 5, 5, 5, 6, 6, 6, 6, 6, 6, 6, 6, 6, 6, 6, 6, 6, 6, 6, 6, 6, 6, 6, 6, 6, 6, 6, 6, 6, 6, 6, 6, 6, 6, 6, 6, 7, 7, 7, 7, 7, 7, 7, 7, 7, 7, 7, 7, 7, 7, 7, 7, 7, 7, 7, 7, 7, 7, 7, 7, 7, 7, 7, 7, 7, 7, 7, 7, 7, 7, 7, 7, 7, 7, 7, 7, 7, 7, 7, 7, 7, 7, 7, 7, 7, 7, 7, 7, 7, 7, 7, 7, 7, 7, 7, 7, 7, 7, 7, 7, 8, 8, 8, 8, 8, 8, 8, 8, 8, 8, 8, 8, 8, 8, 8, 8, 8, 8, 8, 8, 8, 8, 8, 8, 8, 8, 8, 8, 8, 8, 8, 8, 8, 8, 8, 8, 8, 8, 8, 8, 8, 8, 8, 8, 8, 8, 8, 8, 8, 8, 8, 8, 8, 8, 8, 8, 8, 8, 8, 8, 8, 8, 8, 8, 8, 8, 8, 8, 8, 8, 8, 8, 8, 8, 8, 8, 8, 8, 8, 8, 8, 8, 8, 8, 8, 8, 8, 8, 8, 8, 8, 8, 8, 8, 8, 8, 8, 8, 8, 8, 8, 8, 8, 8, 8, 8, 8, 8, 8, 8, 8, 8, 8, 8, 8, 8, 8, 8, 8, 8, 8, 8, 8, 8, 8, 8, 8, 8] (Int.toNat (wrap .u8 (Int.fdiv (Int.fdiv a0 (2 ^ (min (Int.toNat (16 : Int)) (IntKind.bits .u32)))) (2 ^ (min (Int.toNat (8 : Int)) (IntKind.bits .u32)))))) 0) : Nat) : Int))))) none) none)) (cond (decide ((0 : Int) ≤ (wrap .u8 (Int.fdiv a0 (2 ^ (min (Int.toNat (16 : Int)) (IntKind.bits .u32))))))) (cond (decide ((wrap .u8 (Int.fdiv a0 (2 ^ (min (Int.toNat (16 : Int)) (IntKind.bits .u32))))) < ((List.length [0, 1, 2, 2, 3, 3, 3, 3, 4, 4, 4, 4, 4, 4, 4, 4, 5, 5, 5, 5, 5, 5, 5, 5, 5, 5, 5, 5, 5, 5, 5, 5, 6, 6, 6, 6, 6, 6, 6, 6, 6, 6, 6, 6, 6, 6, 6, 6, 6, 6, 6, 6, 6, 6, 6, 6, 6, 6, 6, 6, 6, 6, 6, 6, 7, 7, 7, 7, 7, 7, 7, 7, 7, 7, 7, 7, 7, 7, 7, 7, 7, 7, 7, 7, 7, 7, 7, 7, 7, 7, 7, 7, 7, 7, 7, 7, 7, 7, 7, 7, 7, 7, 7, 7, 7, 7, 7, 7, 7, 7, 7, 7, 7, 7, 7, 7, 7, 7, 7, 7, 7, 7, 7, 7, 7, 7, 7, 7, 8, 8, 8, 8, 8, 8, 8, 8, 8, 8, 8, 8, 8, 8, 8, 8, 8, 8, 8, 8, 8, 8, 8, 8, 8, 8, 8, 8, 8, 8, 8, 8, 8, 8, 8, 8, 8, 8, 8, 8, 8, 8, 8, 8, 8, 8, 8, 8, 8, 8, 8, 8, 8, 8, 8, 8, 8, 8, 8, 8, 8, 8, 8, 8, 8, 8, 8, 8, 8, 8, 8, 8, 8, 8, 8, 8, 8, 8, 8, 8, 8, 8, 8, 8, 8, 8, 8, 8, 8, 8, 8, 8, 8, 8, 8, 8, 8, 8, 8, 8, 8, 8, 8, 8, 8, 8, 8, 8, 8, 8, 8, 8, 8, 8, 8, 8, 8, 8, 8, 8, 8, 8, 8, 8, 8, 8, 8, 8] : Nat) : Int))) (some (wrap .i64 ((16 : Int) + (wrap .i64 ((UInt8.toNat (List.getD [0, 1, 2, 2, 3, 3, 3, 3, 4, 4, 4, 4, 4, 4, 4, 4, 5, 5, 5, 5, 5, 5, 5, 5, 5, 5, 5, 5, 5, 5, 5, 5, 6, 6, 6, 6, 6, 6, 6, 6, 6, 6, 6, 6, 6, 6, 6, 6, 6, 6, 6, 6, 6, 6, 6, 6, 6, 6, 6, 6, 6, 6, 6, 6, 7, 7, 7, 7, 7, 7, 7, 7, 7, 7, 7, 7, 7, 7, 7, 7, 7, 7, 7, 7, 7, 7, 7, 7, 7, 7, 7, 7, 7, 7, 7, 7, 7, 7, 7, 7, 7, 7, 7, 7, 7, 7, 7, 7, 7, 7, 7, 7, 7, 7, 7, 7, 7, 7, 7, 7, 7, 7, 7, 7, 7, 7, 7, 7, 8, 8, 8, 8, 8, 8, 8, 8, 8, 8, 8, 8, 8, 8, 8, 8, 8, 8, 8, 8, 8, 8, 8, 8, 8, 8, 8, 8, 8, 8, 8, 8, 8, 8, 8, 8, 8, 8, 8, 8, 8, 8, 8, 8, 8, 8, 8, 8, 8, 8, 8, 8, 8, 8, 8, 8, 8, 8, 8, 8, 8, 8, 8, 8, 8, 8, 8, 8, 8, 8, 8, 8, 8, 8, 8, 8, 8, 8, 8, 8, 8, 8, 8, 8, 8, 8, 8, 8, 8, 8, 8, 8, 8, 8, 8, 8, 8, 8, 8, 8, 8, 8, 8, 8, 8, 8, 8, 8, 8, 8, 8, 8, 8, 8, 8, 8, 8, 8, 8, 8, 8, 8, 8, 8, 8, 8, 8, 8] (Int.toNat (wrap .u8 (Int.fdiv a0 (2 ^ (min (Int.toNat (16 : Int)) (IntKind.bits .u32)))))) 0) : Nat) : Int))))) none) none))) (cond (decide (a0 ≥ (256 : Int))) (cond (decide ((8 : Int) < 0)) none (cond (decide ((0 : Int) ≤ (wrap .u8 (Int.fdiv a0 (2 ^ (min (Int.toNat (8 : Int)) (IntKind.bits .u32))))))) (cond (decide ((wrap .u8 (Int.fdiv a0 (2 ^ (min (Int.toNat (8 : Int)) (IntKind.bits .u32))))) < ((List.length [0, 1, 2, 2, 3, 3, 3, 3, 4, 4, 4, 4, 4, 4, 4, 4, 5, 5, 5, 5, 5, 5, 5, 5, 5, 5, 5, 5, 5, 5, 5, 5, 6, 6, 6, 6, 6, 6, 6, 6, 6, 6, 6, 6, 6, 6, 6, 6, 6, 6, 6, 6, 6, 6, 6, 6, 6, 6, 6, 6, 6, 6, 6, 6, 7, 7, 7, 7, 7, 7, 7, 7, 7, 7, 7, 7, 7, 7, 7, 7, 7, 7, 7, 7, 7, 7, 7, 7, 7, 7, 7, 7, 7, 7, 7, 7, 7, 7, 7, 7, 7, 7, 7, 7, 7, 7, 7, 7, 7, 7, 7, 7, 7, 7, 7, 7, 7, 7, 7, 7, 7, 7, 7, 7, 7, 7, 7, 7, 8, 8, 8, 8, 8, 8, 8, 8, 8, 8, 8, 8, 8, 8, 8, 8, 8, 8, 8, 8, 8, 8, 8, 8, 8, 8, 8, 8, 8, 8, 8, 8, 8, 8, 8, 8, 8, 8, 8, 8, 8, 8, 8, 8, 8, 8, 8, 8, 8, 8, 8, 8, 8, 8, 8, 8, 8, 8, 8, 8, 8, 8, 8, 8, 8, 8, 8, 8, 8, 8, 8, 8, 8, 8, 8, 8, 8, 8, 8, 8, 8, 8, 8, 8, 8, 8, 8, 8, 8, 8, 8, 8, 8, 8, 8, 8, 8, 8, 8, 8, 8, 8, 8, 8, 8, 8, 8, 8, 8, 8, 8, 8, 8, 8, 8, 8, 8, 8, 8, 8, 8, 8, 8, 8, 8, 8, 8, 8] : Nat) : Int))) (some (wrap .i64 ((wrap .i64 ((0 : Int) + (8 : Int))) + (wrap .i64 ((UInt8.toNat (List.getD [0, 1, 2, 2, 3, 3, 3, 3, 4, 4, 4, 4, 4, 4, 4, 4, 5, 5, 5, 5, 5, 5, 5, 5, 5, 5, 5, 5, 5, 5, 5, 5, 6, 6, 6, 6, 6, 6, 6, 6, 6, 6, 6, 6, 6, 6, 6, 6, 6, 6, 6, 6, 6, 6, 6, 6, 6, 6, 6, 6, 6, 6, 6, 6, 7, 7, 7, 7, 7, 7, 7, 7, 7, 7, 7, 7, 7, 7, 7, 7, 7, 7, 7, 7, 7, 7, 7, 7, 7, 7, 7, 7, 7, 7, 7, 7, 7, 7, 7, 7, 7, 7, 7, 7, 7, 7, 7, 7, 7, 7, 7, 7, 7, 7, 7, 7, 7, 7, 7, 7, 7, 7, 7, 7, 7, 7, 7, 7, 8, 8, 8, 8, 8, 8, 8, 8, 8, 8, 8, 8, 8, 8, 8, 8, 8, 8, 8, 8, 8, 8, 8, 8, 8, 8, 8, 8, 8, 8, 8, 8, 8, 8, 8, 8, 8, 8, 8, 8, 8, 8, 8, 8, 8, 8, 8, 8, 8, 8, 8, 8, 8, 8, 8, 8, 8, 8, 8, 8, 8, 8, 8, 8, 8, 8, 8, 8, 8, 8, 8, 8, 8, 8, 8, 8, 8, 8, 8, 8, 8, 8, 8, 8, 8, 8, 8, 8, 8, 8, 8, 8, 8, 8, 8, 8, 8, 8, 8, 8, 8, 8, 8, 8, 8, 8, 8, 8, 8, 8, 8, 8, 8, 8, 8, 8, 8, 8, 8, 8, 8, 8, 8, 8, 8, 8, 8, 8] (Int.toNat (wrap .u8 (Int.fdiv a0 (2 ^ (min (Int.toNat (8 : Int)) (IntKind.bits .u32)))))) 0) : Nat) : Int))))) none) none)) (cond (decide ((0 : Int) ≤ (wrap .u8 a0))) (cond (decide ((wrap .u8 a0) < ((List.length [0, 1, 2, 2, 3, 3, 3, 3, 4, 4, 4, 4, 4, 4, 4, 4, 5, 5, 5, 5, 5, 5, 5, 5, 5, 5, 5, 5, 5, 5, 5, 5, 6, 6, 6, 6, 6, 6, 6, 6, 6, 6, 6, 6, 6, 6, 6, 6, 6, 6, 6, 6, 6, 6, 6, 6, 6, 6, 6, 6, 6, 6, 6, 6, 7, 7, 7, 7, 7, 7, 7, 7, 7, 7, 7, 7, 7, 7, 7, 7, 7, 7, 7, 7, 7, 7, 7, 7, 7, 7, 7, 7, 7, 7, 7, 7, 7, 7, 7, 7, 7, 7, 7, 7, 7, 7, 7, 7, 7, 7, 7, 7, 7, 7, 7, 7, 7, 7, 7, 7, 7, 7, 7, 7, 7, 7, 7, 7, 8, 8, 8, 8, 8, 8, 8, 8, 8, 8, 8, 8, 8, 8, 8, 8, 8, 8, 8, 8, 8, 8, 8, 8, 8, 8, 8, 8, 8, 8, 8, 8, 8, 8, 8, 8, 8, 8, 8, 8, 8, 8, 8, 8, 8, 8, 8, 8, 8, 8, 8, 8, 8, 8, 8, 8, 8, 8, 8, 8, 8, 8, 8, 8, 8, 8, 8, 8, 8, 8, 8, 8, 8, 8, 8, 8, 8, 8, 8, 8, 8, 8, 8, 8, 8, 8, 8, 8, 8, 8, 8, 8, 8, 8, 8, 8, 8, 8, 8, 8, 8, 8, 8, 8, 8, 8, 8, 8, 8, 8, 8, 8, 8, 8, 8, 8, 8, 8, 8, 8, 8, 8, 8, 8, 8, 8, 8, 8] : Nat) : Int))) (some (wrap .i64 ((0 : Int) + (wrap .i64 ((UInt8.toNat (List.getD [0, 1, 2, 2, 3, 3, 3, 3, 4, 4, 4, 4, 4, 4, 4, 4, 5, 5, 5, 5, 5, 5, 5, 5, 5, 5, 5, 5, 5, 5, 5, 5, 6, 6, 6, 6, 6, 6, 6, 6, 6, 6, 6, 6, 6, 6, 6, 6, 6, 6, 6, 6, 6, 6, 6, 6, 6, 6, 6, 6, 6, 6, 6, 6, 7, 7, 7, 7, 7, 7, 7, 7, 7, 7, 7, 7, 7, 7, 7, 7, 7, 7, 7, 7, 7, 7, 7, 7, 7, 7, 7, 7, 7, 7, 7, 7, 7, 7, 7, 7, 7, 7, 7, 7, 7, 7, 7, 7, 7, 7, 7, 7, 7, 7, 7, 7, 7, 7, 7, 7, 7, 7, 7, 7, 7, 7, 7, 7, 8, 8, 8, 8, 8, 8, 8, 8, 8, 8, 8, 8, 8, 8, 8, 8, 8, 8, 8, 8, 8, 8, 8, 8, 8, 8, 8, 8, 8, 8, 8, 8, 8, 8, 8, 8, 8, 8, 8, 8, 8, 8, 8, 8, 8, 8, 8, 8, 8, 8, 8, 8, 8, 8, 8, 8, 8, 8, 8, 8, 8, 8, 8, 8, 8, 8, 8, 8, 8, 8, 8, 8, 8, 8, 8, 8, 8, 8, 8, 8, 8, 8, 8, 8, 8, 8, 8, 8, 8, 8, 8, 8, 8, 8, 8, 8, 8, 8, 8, 8, 8, 8, 8, 8, 8, 8, 8, 8, 8, 8, 8, 8, 8, 8, 8, 8, 8, 8, 8, 8, 8, 8, 8, 8, 8, 8, 8, 8] (Int.toNat (wrap .u8 a0)) 0) : Nat) : Int))))) none) none)))
def t80_ok (a0 : Int) : Bool := (t80 a0).isSome
def t80_0 (a0 : Int) : Int := ((t80 a0).getD ((Tc.dflt tI)))
def t81 (a0 : Int) : Option (Int) := (cond (decide (a0 ≥ (4294967296 : Int))) (cond (decide ((32 : Int) < 0)) none (cond (decide ((Int.fdiv a0 (2 ^ (min (Int.toNat (32 : Int)) (IntKind.bits .u64)))) ≥ (65536 : Int))) (cond (decide ((16 : Int) < 0)) none (cond (decide ((Int.fdiv (Int.fdiv a0 (2 ^ (min (Int.toNat (32 : Int)) (IntKind.bits .u64)))) (2 ^ (min (Int.toNat (16 : Int)) (IntKind.bits .u64)))) ≥ (256 : Int))) (cond (decide ((8 : Int) < 0)) none (cond (decide ((0 : Int) ≤ (wrap .u8 (Int.fdiv (Int.fdiv (Int.fdiv a0 (2 ^ (min (Int.toNat (32 : Int)) (IntKind.bits .u64)))) (2 ^ (min (Int.toNat (16 : Int)) (IntKind.bits .u64)))) (2 ^ (min (Int.toNat (8 : Int)) (IntKind.bits .u64))))))) (cond (decide ((wrap .u8 (Int.fdiv (Int.fdiv (Int.fdiv a0 (2 ^ (min (Int.toNat (32 : Int)) (IntKind.bits .u64)))) (2 ^ (min (Int.toNat (16 : Int)) (IntKind.bits .u64)))) (2 ^ (min (Int.toNat (8 : Int)) (IntKind.bits .u64))))) < ((List.length [0, 1, 2, 2, 3, 3, 3, 3, 4, 4, 4, 4, 4, 4, 4, 4, 5, 5, 5, 5, 5, 5, 5, 5, 5, 5, 5, 5, 5, 5, 5, 5, 6, 6, 6, 6, 6, 6, 6, 6, 6, 6, 6, 6, 6, 6, 6, 6, 6, 6, 6, 6, 6, 6, 6, 6, 6, 6, 6, 6, 6, 6, 6, 6, 7, 7, 7, 7, 7, 7, 7, 7, 7, 7, 7, 7, 7, 7, 7, 7, 7, 7, 7, 7, 7, 7, 7, 7, 7, 7, 7, 7, 7, 7, 7, 7, 7, 7, 7, 7, 7, 7, 7, 7, 7, 7, 7, 7, 7, 7, 7, 7, 7, 7, 7, 7, 7, 7, 7, 7, 7, 7, 7, 7, 7, 7, 7, 7, 8, 8, 8, 8, 8, 8, 8, 8, 8, 8, 8, 8, 8, 8, 8, 8, 8, 8, 8, 8, 8, 8, 8, 8, 8, 8, 8, 8, 8, 8, 8, 8, 8, 8, 8, 8, 8, 8, 8, 8, 8, 8, 8, 8, 8, 8, 8, 8, 8, 8, 8, 8, 8, 8, 8, 8, 8, 8, 8, 8, 8, 8, 8, 8, 8, 8, 8, 8, 8, 8, 8, 8, 8, 8, 8, 8, 8, 8, 8, 8, 8, 8, 8, 8, 8, 8, 8, 8, 8, 8, 8, 8, 8, 8, 8, 8, 8, 8, 8, 8, 8, 8, 8, 8, 8, 8, 8, 8, 8, 8, 8, 8, 8, 8, 8, 8, 8, 8, 8, 8, 8, 8, 8, 8, 8, 8, 8, 8] : Nat) : Int))) (some (wrap .i64 ((wrap .i64 ((wrap .i64 ((32 : Int) + (16 : Int))) + (8 : Int))) + (wrap .i64 ((UInt8.toNat (List.getD [0, 1, 2, 2, 3, 3, 3, 3, 4, 4, 4, 4, 4, 4, 4, 4, 5, 5, 5, 5, 5, 5, 5, 5, 5, 5, 5, 5, 5, 5, 5, 5, 6, 6, 6, 6, 6, 6, 6, 6, 6, 6, 6, 6, 6, 6, 6, 6, 6, 6, 6, 6, 6, 6, 6, 6, 6, 6, 6, 6, 6, 6, 6, 6, 7, 7, 7, 7, 7, 7, 7, 7, 7, 7, 7, 7, 7, 7, 7, 7, 7, 7, 7, 7, 7, 7, 7, 7, 7, 7, 7, 7, 7, 7, 7, 7, 7, 7, 7, 7, 7, 7, 7, 7, 7, 7, 7, 7, 7, 7, 7, 7, 7, 7, 7, 7, 7, 7, 7, 7, 7, 7, 7, 7, 7, 7, 7, 7, 8, 8, 8, 8, 8, 8, 8, 8, 8, 8, 8, 8, 8, 8, 8, 8, 8, 8, 8, 8, 8, 8, 8, 8, 8, 8, 8, 8, 8, 8, 8, 8, 8, 8, 8, 8, 8, 8, 8, 8, 8, 8, 8, 8, 8, 8, 8, 8, 8, 8, 8, 8, 8, 8, 8, 8, 8, 8, 8, 8, 8, 8, 8, 8, 8, 8, 8, 8, 8, 8, 8, 8, 8, 8, 8, 8, 8, 8, 8, 8, 8, 8, 8, 8, 8, 8, 8, 8, 8, 8, 8, 8, 8, 8, 8, 8, 8, 8, 8, 8, 8, 8, 8, 8, 8, 8, 8, 8, 8, 8, 8, 8, 8, 8, 8, 8, 8, 8, 8, 8, 8, 8, 8, 8, 8, 8, 8, 8] (Int.toNat (wrap .u8 (Int.fdiv (Int.fdiv (Int.fdiv a0 (2 ^ (min (Int.toNat (32 : Int)) (IntKind.bits .u64)))) (2 ^ (min (Int.toNat (16 : Int)) (IntKind.bits .u64)))) (2 ^ (min (Int.toNat (8 : Int)) (IntKind.bits .u64)))))) 0) : Nat) : Int))))) none) none)) (cond (decide ((0 : Int) ≤ (wrap .u8 (Int.fdiv (Int.fdiv a0 (2 ^ (min (Int.toNat (32 : Int)) (IntKind.bits .u64)))) (2 ^ (min (Int.toNat (16 : Int)) (IntKind.bits .u64))))))) (cond (decide ((wrap .u8 (Int.fdiv (Int.fdiv a0 (2 ^ (min (Int.toNat (32 : Int)) (IntKind.bits .u64)))) (2 ^ (min (Int.toNat (16 : Int)) (IntKind.bits .u64))))) < ((List.length [0, 1, 2, 2, 3, 3, 3, 3, 4, 4, 4, 4, 4, 4, 4, 4, 5, 5, 5, 5, 5, 5, 5, 5, 5, 5, 5, 5, 5, 5, 5, 5, 6, 6, 6, 6, 6, 6, 6, 6, 6, 6, 6, 6, 6, 6, 6, 6, 6, 6, 6, 6, 6, 6, 6, 6, 6, 6, 6, 6, 6, 6, 6, 6, 7, 7, 7, 7, 7, 7, 7, 7, 7, 7, 7, 7, 7, 7, 7, 7, 7, 7, 7, 7, 7, 7, 7, 7, 7, 7, 7, 7, 7, 7, 7, 7, 7, 7, 7, 7, 7, 7, 7, 7, 7, 7, 7, 7, 7, 7, 7, 7, 7, 7, 7, 7, 7, 7, 7, 7, 7, 7, 7, 7, 7, 7, 7, 7, 8, 8, 8, 8, 8, 8, 8, 8, 8, 8, 8, 8, 8, 8, 8, 8, 8, 8, 8, 8, 8, 8, 8, 8, 8, 8, 8, 8, 8, 8, 8, 8, 8, 8, 8, 8, 8, 8, 8, 8, 8, 8, 8, 8, 8, 8, 8, 8, 8, 8, 8, 8, 8, 8, 8, 8, 8, 8, 8, 8, 8, 8, 8, 8, 8, 8, 8, 8, 8, 8, 8, 8, 8, 8, 8, 8, 8, 8, 8, 8, 8, 8, 8, 8, 8, 8, 8, 8, 8, 8, 8, 8, 8, 8, 8, 8, 8, 8, 8, 8, 8, 8, 8, 8, 8, 8, 8, 8, 8, 8, 8, 8, 8, 8, 8, 8, 8, 8, 8, 8, 8, 8, 8, 8, 8, 8, 8, 8] : Nat) : Int))) (some (wrap .i64 ((wrap .i64 ((32 : Int) + (16 : Int))) + (wrap .i64 ((UInt8.toNat (List.getD [0, 1, 2, 2, 3, 3, 3, 3, 4, 4, 4, 4, 4, 4, 4, 4, 5, 5, 5, 5, 5, 5, 5, 5, 5, 5, 5, 5, 5, 5, 5, 5, 6, 6, 6, 6, 6, 6, 6, 6, 6, 6, 6, 6, 6, 6, 6, 6, 6, 6, 6, 6, 6, 6, 6, 6, 6, 6, 6, 6, 6, 6, 6, 6, 7, 7, 7, 7, 7, 7, 7, 7, 7, 7, 7, 7, 7, 7, 7, 7, 7, 7, 7, 7, 7, 7, 7, 7, 7, 7, 7, 7, 7, 7, 7, 7, 7, 7, 7, 7, 7, 7, 7, 7, 7, 7, 7, 7, 7, 7, 7, 7, 7, 7, 7, 7, 7, 7, 7, 7, 7, 7, 7, 7, 7, 7, 7, 7, 8, 8, 8, 8, 8, 8, 8, 8, 8, 8, 8, 8, 8, 8, 8, 8, 8, 8, 8, 8, 8, 8, 8, 8, 8, 8, 8, 8, 8, 8, 8, 8, 8, 8, 8, 8, 8, 8, 8, 8, 8, 8, 8, 8, 8, 8, 8, 8, 8, 8, 8, 8, 8, 8, 8, 8, 8, 8, 8, 8, 8, 8, 8, 8, 8, 8, 8, 8, 8, 8, 8, 8, 8, 8, 8, 8, 8, 8, 8, 8, 8, 8, 8, 8, 8, 8, 8, 8, 8, 8, 8, 8, 8, 8, 8, 8, 8, 8, 8, 8, 8, 8, 8, 8, 8, 8, 8, 8, 8, 8, 8, 8, 8, 8, 8, 8, 8, 8, 8, 8, 8, 8, 8, 8, 8, 8, 8, 8] (Int.toNat (wrap .u8 (Int.fdiv (Int.fdiv a0 (2 ^ (min (Int.toNat (32 : Int)) (IntKind.bits .u64)))) (2 ^ (min (Int.toNat (16 : Int)) (IntKind.bits .u64)))))) 0) : Nat) : Int))))) none) none))) (cond (decide ((Int.fdiv a0 (2 ^ (min (Int.toNat (32 : Int)) (IntKind.bits .u64)))) ≥ (256 : Int))) (cond (decide ((8 : Int) < 0)) none (cond (decide ((0 : Int) ≤ (wrap .u8 (Int.fdiv (Int.fdiv a0 (2 ^ (min (Int.toNat (32 : Int)) (IntKind.bits .u64)))) (2 ^ (min (Int.toNat (8 : Int)) (IntKind.bits .u64))))))) (cond (decide ((wrap .u8 (Int.fdiv (Int.fdiv a0 (2 ^ (min (Int.toNat (32 : Int)) (IntKind.bits .u64)))) (2 ^ (min (Int.toNat (8 : Int)) (IntKind.bits .u64))))) < ((List.length [0, 1, 2, 2, 3, 3, 3, 3, 4, 4, 4, 4, 4, 4, 4, 4, 5, 5, 5, 5, 5, 5, 5, 5, 5, 5, 5, 5, 5, 5, 5, 5, 6, 6, 6, 6, 6, 6, 6, 6, 6, 6, 6, 6, 6, 6, 6, 6, 6, 6, 6, 6, 6, 6, 6, 6, 6, 6, 6, 6, 6, 6, 6, 6, 7, 7, 7, 7, 7, 7, 7, 7, 7, 7, 7, 7, 7, 7, 7, 7, 7, 7, 7, 7, 7, 7, 7, 7, 7, 7, 7, 7, 7, 7, 7, 7, 7, 7, 7, 7, 7, 7, 7, 7, 7, 7, 7, 7, 7, 7, 7, 7, 7, 7, 7, 7, 7, 7, 7, 7, 7, 7, 7, 7, 7, 7, 7, 7, 8, 8, 8, 8, 8, 8, 8, 8, 8, 8, 8, 8, 8, 8, 8, 8, 8, 8, 8, 8, 8, 8, 8, 8, 8, 8, 8, 8, 8, 8, 8, 8, 8, 8, 8, 8, 8, 8, 8, 8, 8, 8, 8, 8, 8, 8, 8, 8, 8, 8, 8, 8, 8, 8, 8, 8, 8, 8, 8, 8, 8, 8, 8, 8, 8, 8, 8, 8, 8, 8, 8, 8, 8, 8, 8, 8, 8, 8, 8, 8, 8, 8, 8, 8, 8, 8, 8, 8, 8, 8, 8, 8, 8, 8, 8, 8, 8, 8, 8, 8, 8, 8, 8, 8, 8, 8, 8, 8, 8, 8, 8, 8, 8, 8, 8, 8, 8, 8, 8, 8, 8, 8, 8, 8, 8, 8, 8, 8] : Nat) : Int))) (some (wrap .i64 ((wrap .i64 ((32 : Int) + (8 : Int))) + (wrap .i64 ((UInt8.toNat (List.getD [0, 1, 2, 2, 3, 3, 3, 3, 4, 4, 4, 4, 4, 4, 4, 4, 5, 5, 5, 5, 5, 5, 5, 5, 5, 5, 5, 5, 5, 5, 5, 5, 6, 6, 6, 6, 6, 6, 6, 6, 6, 6, 6, 6, 6, 6, 6, 6, 6, 6, 6, 6, 6, 6, 6, 6, 6, 6, 6, 6, 6, 6, 6, 6, 7, 7, 7, 7, 7, 7, 7, 7, 7, 7, 7, 7, 7, 7, 7, 7, 7, 7, 7, 7, 7, 7, 7, 7, 7, 7, 7, 7, 7, 7, 7, 7, 7, 7, 7, 7, 7, 7, 7, 7, 7, 7, 7, 7, 7, 7, 7, 7, 7, 7, 7, 7, 7, 7, 7, 7, 7, 7, 7, 7, 7, 7, 7, 7, 8, 8, 8, 8, 8, 8, 8, 8, 8, 8, 8, 8, 8, 8, 8, 8, 8, 8, 8, 8, 8, 8, 8, 8, 8, 8, 8, 8, 8, 8, 8, 8, 8, 8, 8, 8, 8, 8, 8, 8, 8, 8, 8, 8, 8, 8, 8, 8, 8, 8, 8, 8, 8, 8, 8, 8, 8, 8, 8, 8, 8, 8, 8, 8, 8, 8, 8, 8, 8, 8, 8, 8, 8, 8, 8, 8, 8, 8, 8, 8, 8, 8, 8, 8, 8, 8, 8, 8, 8, 8, 8, 8, 8, 8, 8, 8, 8, 8, 8, 8, 8, 8, 8, 8, 8, 8, 8, 8, 8, 8, 8, 8, 8, 8, 8, 8, 8, 8, 8, 8, 8, 8, 8, 8, 8, 8, 8, 8] (Int.toNat (wrap .u8 (Int.fdiv (Int.fdiv a0 (2 ^ (min (Int.toNat (32 : Int)) (IntKind.bits .u64)))) (2 ^ (min (Int.toNat (8 : Int)) (IntKind.bits .u64)))))) 0) : Nat) : Int))))) none) none)) (cond (decide ((0 : Int) ≤ (wrap .u8 (Int.fdiv a0 (2 ^ (min (Int.toNat (32 : Int)) (IntKind.bits .u64))))))) (cond (decide ((wrap .u8 (Int.fdiv a0 (2 ^ (min (Int.toNat (32 : Int)) (IntKind.bits .u64))))) < ((List.length [0, 1, 2, 2, 3, 3, 3, 3, 4, 4, 4, 4, 4, 4, 4, 4, 5, 5, 5, 5, 5, 5, 5, 5, 5, 5, 5, 5, 5, 5, 5, 5, 6, 6, 6, 6, 6, 6, 6, 6, 6, 6, 6, 6, 6, 6, 6, 6, 6, 6, 6, 6, 6, 6, 6, 6, 6, 6, 6, 6, 6, 6, 6, 6, 7, 7, 7, 7, 7, 7, 7, 7, 7, 7, 7, 7, 7, 7, 7, 7, 7, 7, 7, 7, 7, 7, 7, 7, 7, 7, 7, 7, 7, 7, 7, 7, 7, 7, 7, 7, 7, 7, 7, 7, 7, 7, 7, 7, 7, 7, 7, 7, 7, 7, 7, 7, 7, 7, 7, 7, 7, 7, 7, 7, 7, 7, 7, 7, 8, 8, 8, 8, 8, 8, 8, 8, 8, 8, 8, 8, 8, 8, 8, 8, 8, 8, 8, 8, 8, 8, 8, 8, 8, 8, 8, 8, 8, 8, 8, 8, 8, 8, 8, 8, 8, 8, 8, 8, 8, 8, 8, 8, 8, 8, 8, 8, 8, 8, 8, 8, 8, 8, 8, 8, 8, 8, 8, 8, 8, 8, 8, 8, 8, 8, 8, 8, 8, 8, 8, 8, 8, 8, 8, 8, 8, 8, 8, 8, 8, 8, 8, 8, 8, 8, 8, 8, 8, 8, 8, 8, 8, 8, 8, 8, 8, 8, 8, 8, 8, 8, 8, 8, 8, 8, 8, 8, 8, 8, 8, 8, 8, 8, 8, 8, 8, 8, 8, 8, 8, 8, 8, 8, 8, 8, 8, 8] : Nat) : Int))) (some (wrap .i64 ((32 : Int) + (wrap .i64 ((UInt8.toNat (List.getD [0, 1, 2, 2, 3, 3, 3, 3, 4, 4, 4, 4, 4, 4, 4, 4, 5, 5, 5, 5, 5, 5, 5, 5, 5, 5, 5, 5, 5, 5, 5, 5, 6, 6, 6, 6, 6, 6, 6, 6, 6, 6, 6, 6, 6, 6, 6, 6, 6, 6, 6, 6, 6, 6, 6, 6, 6, 6, 6, 6, 6, 6, 6, 6, 7, 7, 7, 7, 7, 7, 7, 7, 7, 7, 7, 7, 7, 7, 7, 7, 7, 7, 7, 7, 7, 7, 7, 7, 7, 7, 7, 7, 7, 7, 7, 7, 7, 7, 7, 7, 7, 7, 7, 7, 7, 7, 7, 7, 7, 7, 7, 7, 7, 7, 7, 7, 7, 7, 7, 7, 7, 7, 7, 7, 7, 7, 7, 7, 8, 8, 8, 8, 8, 8, 8, 8, 8, 8, 8, 8, 8, 8, 8, 8, 8, 8, 8, 8, 8, 8, 8, 8, 8, 8, 8, 8, 8, 8, 8, 8, 8, 8, 8, 8, 8, 8, 8, 8, 8, 8, 8, 8, 8, 8, 8, 8, 8, 8, 8, 8, 8, 8, 8, 8, 8, 8, 8, 8, 8, 8, 8, 8, 8, 8, 8, 8, 8, 8, 8, 8, 8, 8, 8, 8, 8, 8, 8, 8, 8, 8, 8, 8, 8, 8, 8, 8, 8, 8, 8, 8, 8, 8, 8, 8, 8, 8, 8, 8, 8, 8, 8, 8, 8, 8, 8, 8, 8, 8, 8, 8, 8, 8, 8, 8, 8, 8, 8, 8, 8, 8, 8, 8, 8, 8, 8, 8] (Int.toNat (wrap .u8 (Int.fdiv a0 (2 ^ (min (Int.toNat (32 : Int)) (IntKind.bits .u64)))))) 0) : Nat) : Int))))) none) none)))) (cond (decide (a0 ≥ (65536 : Int))) (cond (decide ((16 : Int) < 0)) none (cond (decide ((Int.fdiv a0 (2 ^ (min (Int.toNat (16 : Int)) (IntKind.bits .u64)))) ≥ (256 : Int))) (cond (decide ((8 : Int) < 0)) none (cond (decide ((0 : Int) ≤ (wrap .u8 (Int.fdiv (Int.fdiv a0 (2 ^ (min (Int.toNat (16 : Int)) (IntKind.bits .u64)))) (2 ^ (min (Int.toNat (8 : Int)) (IntKind.bits .u64))))))) (cond (decide ((wrap .u8 (Int.fdiv (Int.fdiv a0 (2 ^ (min (Int.toNat (16 : Int)) (IntKind.bits .u64)))) (2 ^ (min (Int.toNat (8 : Int)) (IntKind.bits .u64))))) < ((List.length [0, 1, 2, 2, 3, 3, 3, 3, 4, 4, 4, 4, 4, 4, 4, 4, 5, 5, 5, 5, 5, 5, 5, 5, 5, 5, 5, 5, 5, 5, 5, 5, 6, 6, 6, 6, 6, 6, 6, 6, 6, 6, 6, 6, 6, 6, 6, 6, 6, 6, 6, 6, 6, 6, 6, 6, 6, 6, 6, 6, 6, 6, 6, 6, 7, 7, 7, 7, 7, 7, 7, 7, 7, 7, 7, 7, 7, 7, 7, 7, 7, 7, 7, 7, 7, 7, 7, 7, 7, 7, 7, 7, 7, 7, 7, 7, 7, 7, 7, 7, 7, 7, 7, 7, 7, 7, 7, 7, 7, 7, 7, 7, 7, 7, 7, 7, 7, 7, 7, 7, 7, 7, 7, 7, 7, 7, 7, 7, 8, 8, 8, 8, 8, 8, 8, 8, 8, 8, 8, 8, 8, 8, 8, 8, 8, 8, 8, 8, 8, 8, 8, 8, 8, 8, 8, 8, 8, 8, 8, 8, 8, 8, 8, 8, 8, 8, 8, 8, 8, 8, 8, 8, 8, 8, 8, 8, 8, 8, 8, 8, 8, 8, 8, 8, 8, 8, 8, 8, 8, 8, 8, 8, 8, 8, 8, 8, 8, 8, 8, 8, 8, 8, 8, 8, 8, 8, 8, 8, 8, 8, 8, 8, 8, 8, 8, 8, 8, 8, 8, 8, 8, 8, 8, 8, 8, 8, 8, 8, 8, 8, 8, 8, 8, 8, 8, 8, 8, 8, 8, 8, 8, 8, 8, 8, 8, 8, 8, 8, 8, 8, 8, 8, 8, 8, 8, 8] : Nat) : Int))) (some (wrap .i64 ((wrap .i64 ((wrap .i64 ((0 : Int) + (16 : Int))) + (8 : Int))) + (wrap .i64 ((UInt8.toNat (List.getD [0, 1, 2, 2, 3, 3, 3, 3, 4, 4, 4, 4, 4, 4, 4, 4, 5, 5, 5, 5, 5, 5, 5, 5, 5, 5, 5, 5, 5, 5, 5, 5, 6, 6, 6, 6, 6, 6, 6, 6, 6, 6, 6, 6, 6, 6, 6, 6, 6, 6, 6, 6, 6, 6, 6, 6, 6, 6, 6, 6, 6, 6, 6, 6, 7, 7, 7, 7, 7, 7, 7, 7, 7, 7, 7, 7, 7, 7, 7, 7, 7, 7, 7, 7, 7, 7, 7, 7, 7, 7, 7, 7, 7, 7, 7, 7, 7, 7, 7, 7, 7, 7, 7, 7, 7, 7, 7, 7, 7, 7, 7, 7, 7, 7, 7, 7, 7, 7, 7, 7, 7, 7, 7, 7, 7, 7, 7, 7, 8, 8, 8, 8, 8, 8, 8, 8, 8, 8, 8, 8, 8, 8, 8, 8, 8, 8, 8, 8, 8, 8, 8, 8, 8, 8, 8, 8, 8, 8, 8, 8, 8, 8, 8, 8, 8, 8, 8, 8, 8, 8, 8, 8, 8, 8, 8, 8, 8, 8, 8, 8, 8, 8, 8, 8, 8, 8, 8, 8, 8, 8, 8, 8, 8, 8, 8, 8, 8, 8, 8, 8, 8, 8, 8, 8, 8, 8, 8, 8, 8, 8, 8, 8, 8, 8, 8, 8, 8, 8, 8, 8, 8, 8, 8, 8, 8, 8, 8, 8, 8, 8, 8, 8, 8, 8, 8, 8, 8, 8, 8, 8, 8, 8, 8, 8, 8, 8, 8, 8, 8, 8, 8, 8, 8, 8, 8, 8] (Int.toNat (wrap .u8 (Int.fdiv (Int.fdiv a0 (2 ^ (min (Int.toNat (16 : Int)) (IntKind.bits .u64)))) (2 ^ (min (Int.toNat (8 : Int)) (IntKind.bits .u64)))))) 0) : Nat) : Int))))) none) none)) (cond (decide ((0 : Int) ≤ (wrap .u8 (Int.fdiv a0 (2 ^ (min (Int.toNat (16 : Int)) (IntKind.bits .u64))))))) (cond (decide ((wrap .u8 (Int.fdiv a0 (2 ^ (min (Int.toNat (16 : Int)) (IntKind.bits .u64))))) < ((List.length [0, 1, 2, 2, 3, 3, 3, 3, 4, 4, 4, 4, 4, 4, 4, 4, 5, 5, 5, 5, 5, 5, 5, 5, 5, 5, 5, 5, 5, 5, 5, 5, 6, 6, 6, 6, 6, 6, 6, 6, 6, 6, 6, 6, 6, 6, 6, 6, 6, 6, 6, 6, 6, 6, 6, 6, 6, 6, 6, 6, 6, 6, 6, 6, 7, 7, 7, 7, 7, 7, 7, 7, 7, 7, 7, 7, 7, 7, 7, 7, 7, 7, 7, 7, 7, 7, 7, 7, 7, 7, 7, 7, 7, 7, 7, 7, 7, 7, 7, 7, 7, 7, 7, 7, 7, 7, 7, 7, 7, 7, 7, 7, 7, 7, 7, 7, 7, 7, 7, 7, 7, 7, 7, 7, 7, 7, 7, 7, 8, 8, 8, 8, 8, 8, 8, 8, 8, 8, 8, 8, 8, 8, 8, 8, 8, 8, 8, 8, 8, 8, 8, 8, 8, 8, 8, 8, 8, 8, 8, 8, 8, 8, 8, 8, 8, 8, 8, 8, 8, 8, 8, 8, 8, 8, 8, 8, 8, 8, 8, 8, 8, 8, 8, 8, 8, 8, 8, 8, 8, 8, 8, 8, 8, 8, 8, 8, 8, 8, 8, 8, 8, 8, 8, 8, 8, 8, 8, 8, 8, 8, 8, 8, 8, 8, 8, 8, 8, 8, 8, 8, 8, 8, 8, 8, 8, 8, 8, 8, 8, 8, 8, 8, 8, 8, 8, 8, 8, 8, 8, 8, 8, 8, 8, 8, 8, 8, 8, 8, 8, 8, 8, 8, 8, 8, 8, 8] : Nat) : Int))) (some (wrap .i64 ((wrap .i64 ((0 : Int) + (16 : Int))) + (wrap .i64 ((UInt8.toNat (List.getD [0, 1, 2, 2, 3, 3, 3, 3, 4, 4, 4, 4, 4, 4, 4, 4, 5, 5, 5, 5, 5, 5, 5, 5, 5, 5, 5, 5, 5, 5, 5, 5, 6, 6, 6, 6, 6, 6, 6, 6, 6, 6, 6, 6, 6, 6, 6, 6, 6, 6, 6, 6, 6, 6, 6, 6, 6, 6, 6, 6, 6, 6, 6, 6, 7, 7, 7, 7, 7, 7, 7, 7, 7, 7, 7, 7, 7, 7, 7, 7, 7, 7, 7, 7, 7, 7, 7, 7, 7, 7, 7, 7, 7, 7, 7, 7, 7, 7, 7, 7, 7, 7, 7, 7, 7, 7, 7, 7, 7, 7, 7, 7, 7, 7, 7, 7, 7, 7, 7, 7, 7, 7, 7, 7, 7, 7, 7, 7, 8, 8, 8, 8, 8, 8, 8, 8, 8, 8, 8, 8, 8, 8, 8, 8, 8, 8, 8, 8, 8, 8, 8, 8, 8, 8, 8, 8, 8, 8, 8, 8, 8, 8, 8, 8, 8, 8, 8, 8, 8, 8, 8, 8, 8, 8, 8, 8, 8, 8, 8, 8, 8, 8, 8, 8, 8, 8, 8, 8, 8, 8, 8, 8, 8, 8, 8, 8, 8, 8, 8, 8, 8, 8, 8, 8, 8, 8, 8, 8, 8, 8, 8, 8, 8, 8, 8, 8, 8, 8, 8, 8, 8, 8, 8, 8, 8, 8, 8, 8, 8, 8, 8, 8, 8, 8, 8, 8, 8, 8, 8, 8, 8, 8, 8, 8, 8, 8, 8, 8, 8, 8, 8, 8, 8, 8, 8, 8] (Int.toNat (wrap .u8 (Int.fdiv a0 (2 ^ (min (Int.toNat (16 : Int)) (IntKind.bits .u64)))))) 0) : Nat) : Int))))) none) none))) (cond (decide (a0 ≥ (256 : Int))) (cond (decide ((8 : Int) < 0)) none (cond (decide ((0 : Int) ≤ (wrap .u8 (Int.fdiv a0 (2 ^ (min (Int.toNat (8 : Int)) (IntKind.bits .u64))))))) (cond (decide ((wrap .u8 (Int.fdiv a0 (2 ^ (min (Int.toNat (8 : Int)) (IntKind.bits .u64))))) < ((List.length [0, 1, 2, 2, 3, 3, 3, 3, 4, 4, 4, 4, 4, 4, 4, 4, 5, 5, 5, 5, 5, 5, 5, 5, 5, 5, 5, 5, 5, 5, 5, 5, 6, 6, 6, 6, 6, 6, 6, 6, 6, 6, 6, 6, 6, 6, 6, 6, 6, 6, 6, 6, 6, 6, 6, 6, 6, 6, 6, 6, 6, 6, 6, 6, 7, 7, 7, 7, 7, 7, 7, 7, 7, 7, 7, 7, 7, 7, 7, 7, 7, 7, 7, 7, 7, 7, 7, 7, 7, 7, 7, 7, 7, 7, 7, 7, 7, 7, 7, 7, 7, 7, 7, 7, 7, 7, 7, 7, 7, 7, 7, 7, 7, 7, 7, 7, 7, 7, 7, 7, 7, 7, 7, 7, 7, 7, 7, 7, 8, 8, 8, 8, 8, 8, 8, 8, 8, 8, 8, 8, 8, 8, 8, 8, 8, 8, 8, 8, 8, 8, 8, 8, 8, 8, 8, 8, 8, 8, 8, 8, 8, 8, 8, 8, 8, 8, 8, 8, 8, 8, 8, 8, 8, 8, 8, 8, 8, 8, 8, 8, 8, 8, 8, 8, 8, 8, 8, 8, 8, 8, 8, 8, 8, 8, 8, 8, 8, 8, 8, 8, 8, 8, 8, 8, 8, 8, 8, 8, 8, 8, 8, 8, 8, 8, 8, 8, 8, 8, 8, 8, 8, 8, 8, 8, 8, 8, 8, 8, 8, 8, 8, 8, 8, 8, 8, 8, 8, 8, 8, 8, 8, 8, 8, 8, 8, 8, 8, 8, 8, 8, 8, 8, 8, 8, 8, 8] : Nat) : Int))) (some (wrap .i64 ((wrap .i64 ((0 : Int) + (8 : Int))) + (wrap .i64 ((UInt8.toNat (List.getD [0, 1, 2, 2, 3, 3, 3, 3, 4, 4, 4, 4, 4, 4, 4, 4, 5, 5, 5, 5, 5, 5, 5, 5, 5, 5, 5, 5, 5, 5, 5, 5, 6, 6, 6, 6, 6, 6, 6, 6, 6, 6, 6, 6, 6, 6, 6, 6, 6, 6, 6, 6, 6, 6, 6, 6, 6, 6, 6, 6, 6, 6, 6, 6, 7, 7, 7, 7, 7, 7, 7, 7, 7, 7, 7, 7, 7, 7, 7, 7, 7, 7, 7, 7, 7, 7, 7, 7, 7, 7, 7, 7, 7, 7, 7, 7, 7, 7, 7, 7, 7, 7, 7, 7, 7, 7, 7, 7, 7, 7, 7, 7, 7, 7, 7, 7, 7, 7, 7, 7, 7, 7, 7, 7, 7, 7, 7, 7, 8, 8, 8, 8, 8, 8, 8, 8, 8, 8, 8, 8, 8, 8, 8, 8, 8, 8, 8, 8, 8, 8, 8, 8, 8, 8, 8, 8, 8, 8, 8, 8, 8, 8, 8, 8, 8, 8, 8, 8, 8, 8, 8, 8, 8, 8, 8, 8, 8, 8, 8, 8, 8, 8, 8, 8, 8, 8, 8, 8, 8, 8, 8, 8, 8, 8, 8, 8, 8, 8, 8, 8, 8, 8, 8, 8, 8, 8, 8, 8, 8, 8, 8, 8, 8, 8, 8, 8, 8, 8, 8, 8, 8, 8, 8, 8, 8, 8, 8, 8, 8, 8, 8, 8, 8, 8, 8, 8, 8, 8, 8, 8, 8, 8, 8, 8, 8, 8, 8, 8, 8, 8, 8, 8, 8, 8, 8, 8] (Int.toNat (wrap .u8 (Int.fdiv a0 (2 ^ (min (Int.toNat (8 : Int)) (IntKind.bits .u64)))))) 0) : Nat) : Int))))) none) none)) (cond (decide ((0 : Int) ≤ (wrap .u8 a0))) (cond (decide ((wrap .u8 a0) < ((List.length [0, 1, 2, 2, 3, 3, 3, 3, 4, 4, 4, 4, 4, 4, 4, 4, 5, 5, 5, 5, 5, 5, 5, 5, 5, 5, 5, 5, 5, 5, 5, 5, 6, 6, 6, 6, 6, 6, 6, 6, 6, 6, 6, 6, 6, 6, 6, 6, 6, 6, 6, 6, 6, 6, 6, 6, 6, 6, 6, 6, 6, 6, 6, 6, 7, 7, 7, 7, 7, 7, 7, 7, 7, 7, 7, 7, 7, 7, 7, 7, 7, 7, 7, 7, 7, 7, 7, 7, 7, 7, 7, 7, 7, 7, 7, 7, 7, 7, 7, 7, 7, 7, 7, 7, 7, 7, 7, 7, 7, 7, 7, 7, 7, 7, 7, 7, 7, 7, 7, 7, 7, 7, 7, 7, 7, 7, 7, 7, 8, 8, 8, 8, 8, 8, 8, 8, 8, 8, 8, 8, 8, 8, 8, 8, 8, 8, 8, 8, 8, 8, 8, 8, 8, 8, 8, 8, 8, 8, 8, 8, 8, 8, 8, 8, 8, 8, 8, 8, 8, 8, 8, 8, 8, 8, 8, 8, 8, 8, 8, 8, 8, 8, 8, 8, 8, 8, 8, 8, 8, 8, 8, 8, 8, 8, 8, 8, 8, 8, 8, 8, 8, 8, 8, 8, 8, 8, 8, 8, 8, 8, 8, 8, 8, 8, 8, 8, 8, 8, 8, 8, 8, 8, 8, 8, 8, 8, 8, 8, 8, 8, 8, 8, 8, 8, 8, 8, 8, 8, 8, 8, 8, 8, 8, 8, 8, 8, 8, 8, 8, 8, 8, 8, 8, 8, 8, 8] : Nat) : Int))) (some (wrap .i64 ((0 : Int) + (wrap .i64 ((UInt8.toNat (List.getD [0, 1, 2, 2, 3, 3, 3, 3, 4, 4, 4, 4, 4, 4, 4, 4, 5, 5, 5, 5, 5, 5, 5, 5, 5, 5, 5, 5, 5, 5, 5, 5, 6, 6, 6, 6, 6, 6, 6, 6, 6, 6, 6, 6, 6, 6, 6, 6, 6, 6, 6, 6, 6, 6, 6, 6, 6, 6, 6, 6, 6, 6, 6, 6, 7, 7, 7, 7, 7, 7, 7, 7, 7, 7, 7, 7, 7, 7, 7, 7, 7, 7, 7, 7, 7, 7, 7, 7, 7, 7, 7, 7, 7, 7, 7, 7, 7, 7, 7, 7, 7, 7, 7, 7, 7, 7, 7, 7, 7, 7, 7, 7, 7, 7, 7, 7, 7, 7, 7, 7, 7, 7, 7, 7, 7, 7, 7, 7, 8, 8, 8, 8, 8, 8, 8, 8, 8, 8, 8, 8, 8, 8, 8, 8, 8, 8, 8, 8, 8, 8, 8, 8, 8, 8, 8, 8, 8, 8, 8, 8, 8, 8, 8, 8, 8, 8, 8, 8, 8, 8, 8, 8, 8, 8, 8, 8, 8, 8, 8, 8, 8, 8, 8, 8, 8, 8, 8, 8, 8, 8, 8, 8, 8, 8, 8, 8, 8, 8, 8, 8, 8, 8, 8, 8, 8, 8, 8, 8, 8, 8, 8, 8, 8, 8, 8, 8, 8, 8, 8, 8, 8, 8, 8, 8, 8, 8, 8, 8, 8, 8, 8, 8, 8, 8, 8, 8, 8, 8, 8, 8, 8, 8, 8, 8, 8, 8, 8, 8, 8, 8, 8, 8, 8, 8, 8, 8] (Int.toNat (wrap .u8 a0)) 0) : Nat) : Int))))) none) none))))
def t81_ok (a0 : Int) : Bool := (t81 a0).isSome
def t81_0 (a0 : Int) : Int := ((t81 a0).getD ((Tc.dflt tI)))
def t68 (a0 : Int) : Option (Int) := (cond (t81_ok a0) (some (t81_0 a0)) none)
def t68_ok (a0 : Int) : Bool := (t68 a0).isSome
def t68_0 (a0 : Int) : Int := ((t68 a0).getD ((Tc.dflt tI)))
def okT : Option Fr := some ⟨[.dat .bool true], []⟩
def okF : Option Fr := some ⟨[.dat .bool false], []⟩
def tD (p q : Prgm) (e : Int) (x y z : List Bytes) : Option Fr :=
  cond ((difF p q).2.2.2 == e) (cond (decide (List.length ((difF p q).1) ≤ 1000)) (cond ((difF p q).1 == x) (cond (decide (List.length ((difF p q).2.1) ≤ 1000)) (cond ((difF p q).2.1 == y) (cond (decide (List.length ((difF p q).2.2.1) ≤ 1000)) (cond ((difF p q).2.2.1 == z) okT okF) none) okF) none) okF) none) okF
def tL (p : Prgm) (f a : Int) (e2 : Int) (w : List Bytes) (k : Option Fr) : Option Fr :=
  cond ((leavesF p f a).2 == e2) (cond (decide (List.length ((leavesF p f a).1) ≤ 1000)) (cond ((leavesF p f a).1 == w) k okF) none) okF
def tA (p : Prgm) (f : Int) (key : Bytes) (a : Int) (e1 n : Int) (k : Option Fr) : Option Fr :=
  cond ((lateF p f key a).2 == e1) (cond ((lateF p f key a).1 == n) k okF) okF
def t3 (p q : Prgm) (f : Int) (key : Bytes) (a e1 n e2 : Int) (w : List Bytes) : Option Fr :=
  cond (firstE [checkProg keyR p, checkProg keyR q] == 0)
    (cond (decide (List.length p.1 ≤ 100) && partsOk p.1 && decide (List.length q.1 ≤ 100)) (tA p f key a e1 n (tL p f a e2 w (tD p q (firstE [checkProg keyR p, checkProg keyR q]) (goneF p.1 q.1) (goneF q.1 p.1) (otherR p.1 q.1)))) none)
    (tA p f key a e1 n (tL p f a e2 w (tD p q (firstE [checkProg keyR p, checkProg keyR q]) [] [] [])))
def t2 (p q : Prgm) (f : Int) (key : Bytes) (a e1 n e2 : Int) : Option Fr :=
  cond (e2 == 0) (cond (decide (List.length p.1 ≤ 100) && partsOk p.1) (t3 p q f key a e1 n e2 (lvR p f a)) none) (t3 p q f key a e1 n e2 [])
def t1 (p q : Prgm) (f : Int) (key : Bytes) (a o : Int) : Option Fr :=
  cond (decide (List.length [o, t17_0 a] ≤ 1000)) (cond (t19_ok p.1 key) (cond (decide (List.length [o, t18_0 (decide (t19_0 p.1 key < 0)) 8, t17_0 a] ≤ 1000)) (cond (decide (List.length [checkProg keyR p, checkProg keyR q] ≤ 1000))
    (cond (firstE [o, t18_0 (decide (t19_0 p.1 key < 0)) 8, t17_0 a] == 0)
      (cond (decide (List.length p.1 ≤ 1000) && decide (0 ≤ itemIx p.1 key)) (t2 p q f key a (firstE [o, t18_0 (decide (t19_0 p.1 key < 0)) 8, t17_0 a]) (lateR p f key a) (firstE [o, t17_0 a])) none)
      (t2 p q f key a (firstE [o, t18_0 (decide (t19_0 p.1 key < 0)) 8, t17_0 a]) 0 (firstE [o, t17_0 a]))) none) none) none) none
def tAll (p q : Prgm) (f : Int) (key : Bytes) (a : Int) : Option Fr :=
  cond (checkProg keyR p == 0) (cond (decide (List.length p.1 ≤ 1000)) (t1 p q f key a (beginF p f)) none) (t1 p q f key a (checkProg keyR p))
def upL (xs : List Item) (j : Int) : List Item := List.set xs (Int.toNat j) ((List.getD xs (Int.toNat j) (Tc.dflt tItem)).1, ((List.getD xs (Int.toNat j) (Tc.dflt tItem)).2.1, (wrap .i64 ((List.getD xs (Int.toNat j) (Tc.dflt tItem)).2.2.1 + (1 : Int)), (List.getD xs (Int.toNat j) (Tc.dflt tItem)).2.2.2)))
def lawJ (p : Prgm) (f : Int) (k : Bytes) (m j : Int) : Option Fr :=
  cond (decide ((0 : Int) ≤ j)) (cond (decide (j < ((List.length p.1 : Nat) : Int))) (cond (decide (Int.toNat j < List.length p.1)) (cond (decide (Int.toNat j < List.length p.1))
  (cond (decide ((0 : Int) ≤ j)) (cond (decide (j < ((List.length p.1 : Nat) : Int))) (cond (decide (Int.toNat j < List.length p.1)) (cond (decide (Int.toNat j < List.length p.1)) (tAll p (upL p.1 j, p.2) f k m) none) none) none) none) none) none) none) none
def lawQ (L : List Int) (p q : Prgm) (f : Int) (k : Bytes) (m b : Int) : Option Fr :=
  cond (atOk 1 b) (cond (next L b 2 == 0) (cond (decide (List.length p.1 ≤ 1000)) (cond (decide (((List.length p.1 : Nat) : Int) > (0 : Int))) (cond (atOk 1 (nextAt b)) (lawJ p f k m (next L (nextAt b) ((List.length p.1 : Nat) : Int))) none) (tAll p p f k m)) none) (tAll p q f k m)) none
def lawB (L : List Int) (p q : Prgm) (f b : Int) : Option Fr :=
  cond (atOk 1 b && decide (0 < List.length ([[97], [98], [99], [122, 122]] : List Bytes)) && decide (List.length ([[97], [98], [99], [122, 122]] : List Bytes) ≤ 1000))
  (cond (atOk 1 (nextAt b) && decide (0 < List.length [(0 : Int), (100 : Int), (250 : Int), (500 : Int), (1500 : Int), (-1 : Int)]) && decide (List.length [(0 : Int), (100 : Int), (250 : Int), (500 : Int), (1500 : Int), (-1 : Int)] ≤ 1000))
  (lawQ L p q f (some_ L b ([[97], [98], [99], [122, 122]] : List Bytes)) (pick L (nextAt b) [(0 : Int), (100 : Int), (250 : Int), (500 : Int), (1500 : Int), (-1 : Int)]) (nextAt (nextAt b))) none) none

end Go.Ev.N

set_option linter.unusedVariables false
set_option linter.unusedSimpArgs false
set_option maxRecDepth 100000
namespace Go.Ev.N
open Go Go.Ev Go.Proofs

def tab : List (Nat × TI) := [
  (2, ⟨1, false, [dI .i64 0], some tI, [], none, 8, true, none, none⟩),
  (3, ⟨1, false, [dI .i64 0], some tI, [], none, 8, true, none, none⟩),
  (4, ⟨1, false, [dB false], some .bool, [], none, 1, true, none, none⟩),
  (5, ⟨1, false, [dI .u8 0], some (.int .u8), [], none, 1, true, none, none⟩),
  (6, ⟨1, false, [dI .u8 0], some (.int .u8), [], none, 1, true, none, none⟩),
  (7, ⟨4, true, [dI .i64 0, dI .i64 0, dB false, dI .u8 0], some (.st (.pair tI (.pair tI (.pair .bool (.int .u8))))), [(0, 2), (1, 3), (2, 4), (3, 6)], none, 24, false, none, none⟩),
  (9, ⟨1, false, [dS []], some .str, [], none, 16, true, none, none⟩),
  (12, ⟨1, false, [dI .u64 0], some (.int .u64), [], none, 8, true, none, none⟩),
  (13, ⟨2, true, [dS [], dI .u64 0], some (.st (.pair .str (.int .u64))), [(0, 9), (1, 12)], none, 24, false, none, none⟩),
  (17, ⟨1, false, [.nilp], none, [], none, 8, false, some 150, none⟩),
  (18, ⟨1, true, [.nilp], none, [(0, 17)], none, 8, false, none, none⟩),
  (19, ⟨1, true, [.nilp], none, [(0, 17)], none, 8, false, none, none⟩),
  (21, ⟨1, false, [dI .i32 0], some (.int .i32), [], none, 4, true, none, none⟩),
  (22, ⟨1, false, [.nil0], some (.slice tI), [], some 3, 24, false, none, none⟩),
  (23, ⟨1, false, [.nilp], none, [], none, 8, false, some 25, none⟩),
  (24, ⟨2, true, [.nil0, dI .i64 0], some (.st (.pair (.slice tI) tI)), [(0, 22), (1, 3)], none, 32, false, none, none⟩),
  (25, ⟨2, true, [.nil0, dI .i64 0], some (.st (.pair (.slice tI) tI)), [(0, 22), (1, 3)], none, 32, false, none, none⟩),
  (26, ⟨1, false, [.nil0], some (.slice tItem), [], some 37, 24, false, none, none⟩),
  (27, ⟨5, true, [.nil0, dI .i64 0, dI .i64 0, dI .i64 0, dI .i64 0], some tPrgm, [(0, 26), (1, 3), (2, 3), (3, 3), (4, 3)], none, 56, false, none, none⟩),
  (28, ⟨5, true, [.nil0, dI .i64 0, dI .i64 0, dI .i64 0, dI .i64 0], some tPrgm, [(0, 26), (1, 3), (2, 3), (3, 3), (4, 3)], none, 56, false, none, none⟩),
  (29, ⟨1, false, [.nilf], none, [], none, 8, false, none, none⟩),
  (30, ⟨1, false, [.nilf], none, [], none, 8, false, none, none⟩),
  (31, ⟨1, false, [.nilf], none, [], none, 8, false, none, none⟩),
  (32, ⟨1, false, [.nilf], none, [], none, 8, false, none, none⟩),
  (33, ⟨1, false, [.nilf], none, [], none, 8, false, none, none⟩),
  (34, ⟨1, false, [.nilf], none, [], none, 8, false, none, none⟩),
  (35, ⟨1, false, [.nil0], some (.slice .str), [], some 9, 24, false, none, none⟩),
  (36, ⟨4, true, [dS [], dS [], dI .i64 0, .nil0], some tItem, [(0, 9), (1, 9), (2, 3), (3, 35)], none, 64, false, none, none⟩),
  (37, ⟨4, true, [dS [], dS [], dI .i64 0, .nil0], some tItem, [(0, 9), (1, 9), (2, 3), (3, 35)], none, 64, false, none, none⟩),
  (38, ⟨1, false, [.nilf], none, [], none, 8, false, none, none⟩),
  (39, ⟨1, false, [dI .i64 0], some tI, [], none, 8, true, none, none⟩),
  (41, ⟨1, false, [.nilf], none, [], none, 8, false, none, none⟩),
  (43, ⟨1, false, [.nilf], none, [], none, 8, false, none, none⟩),
  (45, ⟨1, false, [.nilf], none, [], none, 8, false, none, none⟩),
  (46, ⟨1, false, [.nilf], none, [], none, 8, false, none, none⟩),
  (47, ⟨1, false, [.nilf], none, [], none, 8, false, none, none⟩),
  (48, ⟨1, false, [.nilf], none, [], none, 8, false, none, none⟩),
  (49, ⟨1, false, [.nilf], none, [], none, 8, false, none, none⟩),
  (50, ⟨1, false, [.nilf], none, [], none, 8, false, none, none⟩),
  (51, ⟨1, false, [.nilf], none, [], none, 8, false, none, none⟩),
  (52, ⟨1, false, [.nilf], none, [], none, 8, false, none, none⟩),
  (53, ⟨1, false, [.nilf], none, [], none, 8, false, none, none⟩),
  (55, ⟨1, false, [.nilf], none, [], none, 8, false, none, none⟩),
  (56, ⟨1, false, [.nilf], none, [], none, 8, false, none, none⟩),
  (57, ⟨1, false, [.nilf], none, [], none, 8, false, none, none⟩),
  (58, ⟨1, false, [.nilf], none, [], none, 8, false, none, none⟩),
  (59, ⟨1, false, [.nilf], none, [], none, 8, false, none, none⟩),
  (60, ⟨1, false, [.nilp], none, [], none, 8, false, some 37, none⟩),
  (61, ⟨1, false, [.nilf], none, [], none, 8, false, none, none⟩),
  (62, ⟨1, false, [.nilf], none, [], none, 8, false, none, none⟩),
  (64, ⟨1, false, [.nilf], none, [], none, 8, false, none, none⟩),
  (65, ⟨1, false, [.nilm], none, [], none, 8, false, none, some (9, 4)⟩),
  (66, ⟨1, false, [.nilf], none, [], none, 8, false, none, none⟩),
  (67, ⟨1, false, [.nilf], none, [], none, 8, false, none, none⟩),
  (68, ⟨1, false, [.nil0], some (.slice tPrgm), [], some 28, 24, false, none, none⟩),
  (69, ⟨1, false, [.nilf], none, [], none, 8, false, none, none⟩),
  (70, ⟨1, false, [.nilf], none, [], none, 8, false, none, none⟩),
  (71, ⟨1, false, [.nilf], none, [], none, 8, false, none, none⟩),
  (73, ⟨1, false, [.nil0], some (.slice tI), [], some 39, 24, false, none, none⟩),
  (75, ⟨1, false, [.nilf], none, [], none, 8, false, none, none⟩),
  (77, ⟨2, true, [dI .i64 0, dI .i64 0], some tWindow, [(0, 3), (1, 3)], none, 16, true, none, none⟩),
  (79, ⟨3, true, [dS [], dI .i64 0, dI .i64 0], some tTimed, [(0, 9), (1, 77)], none, 32, true, none, none⟩),
  (80, ⟨1, false, [.nil0], some (.slice tTimed), [], some 79, 24, false, none, none⟩),
  (81, ⟨1, false, [.nilf], none, [], none, 8, false, none, none⟩),
  (95, ⟨1, false, [dI .u64 0], some (.int .u64), [], none, 8, true, none, none⟩),
  (99, ⟨1, false, [dI .i64 0], some tI, [], none, 8, true, none, none⟩),
  (107, ⟨1, false, [dI .u32 0], some (.int .u32), [], none, 4, true, none, none⟩),
  (109, ⟨1, false, [dI .u64 0], some (.int .u64), [], none, 8, true, none, none⟩),
  (116, ⟨1, false, [.nilp], none, [], none, 8, false, some 112, none⟩)]
noncomputable def En0 : Env := ⟨ttOf tab, fun _ => none, fun _ _ => True⟩
noncomputable def I28 : FnI := ⟨En0, ⟨[], [], []⟩, Tryz.f28, codeOf Tryz.f28, [.data tI], 0⟩
noncomputable def S28 : Spec := genS [true, true] false ⟨[.undef, .undef], []⟩ [tI, tI] (fun x => true) (fun x => ⟨[.dat tI (below x.1 x.2.1)], []⟩)
noncomputable def En28 : Env := En0.add 28 S28
noncomputable def I10 : FnI := ⟨En28, ⟨[], [], []⟩, Tryz.f10, codeOf Tryz.f10, [.data tI], 1⟩
noncomputable def S10 : Spec := genS [false, true] true ⟨[.ptr 0 0, .undef], [(0, .box [.undef, .undef])]⟩ [tI, (.slice tI), tI] (fun x => atOk 1 x.2.2.1) (fun x => ⟨[.dat tI (next x.2.1 x.2.2.1 x.1)], [(0, .box [.dat (.slice tI) (x.2.1), .dat tI (nextAt x.2.2.1)])]⟩)
noncomputable def En10 : Env := En28.add 10 S10
noncomputable def I6 : FnI := ⟨En10, ⟨[], [], []⟩, Tryz.f6, codeOf Tryz.f6, [.data .str], 1⟩
noncomputable def S6 : Spec := genS [false, true] true ⟨[.ptr 0 0, .undef], [(0, .box [.undef, .undef])]⟩ [(.slice .str), (.slice tI), tI] (fun x => atOk 1 x.2.2.1 && decide (0 < List.length x.1) && decide (List.length x.1 ≤ 1000)) (fun x => ⟨[.dat .str (some_ x.2.1 x.2.2.1 x.1)], [(0, .box [.dat (.slice tI) (x.2.1), .dat tI (nextAt x.2.2.1)])]⟩)
noncomputable def En6 : Env := En10.add 6 S6
noncomputable def I8 : FnI := ⟨En6, ⟨[], [], []⟩, Tryz.f8, codeOf Tryz.f8, [.data .bool], 1⟩
noncomputable def S8 : Spec := genS [false, true] true ⟨[.ptr 0 0, .undef], [(0, .box [.undef, .undef])]⟩ [tI, (.slice tI), tI] (fun x => atOk 1 x.2.2.1) (fun x => ⟨[.dat .bool (next x.2.1 x.2.2.1 x.1 == 0)], [(0, .box [.dat (.slice tI) (x.2.1), .dat tI (nextAt x.2.2.1)])]⟩)
noncomputable def En8 : Env := En6.add 8 S8
noncomputable def I7 : FnI := ⟨En8, ⟨[], [], []⟩, Tryz.f7, codeOf Tryz.f7, [.data tI], 1⟩
noncomputable def S7 : Spec := genS [false, true] true ⟨[.ptr 0 0, .undef], [(0, .box [.undef, .undef])]⟩ [(.slice tI), (.slice tI), tI] (fun x => atOk 1 x.2.2.1 && decide (0 < List.length x.1) && decide (List.length x.1 ≤ 1000)) (fun x => ⟨[.dat tI (pick x.2.1 x.2.2.1 x.1)], [(0, .box [.dat (.slice tI) (x.2.1), .dat tI (nextAt x.2.2.1)])]⟩)
noncomputable def En7 : Env := En8.add 7 S7
noncomputable def I25 : FnI := ⟨En7, ⟨[(0, [0, 4, 5, 23, 24, 25], []), (2, [0, 4, 5, 8, 23, 24, 25, 39, 40, 41], [])], [], [(20, [(0, tItem)]), (38, [(3, .str)])]⟩, Tryz.f25, codeOf Tryz.f25, [.raw], 1⟩
noncomputable def rightP (L : List Int) (at_ n : Int) : Int × List Item × Int × Int × Int × Int := Classical.epsilon fun p => (at_ ≤ p.1 ∧ p.1 ≤ at_ + 200 ∧ p.2.1.length ≤ 5 ∧ ∀ x ∈ p.2.1, x.2.2.2.length ≤ 5) ∧
  I25.run ⟨[.ptr 0 0, .dat tI n], [(0, .box [.dat (.slice tI) L, .dat tI at_])]⟩ = some ⟨[.agg [.slc 2, .dat tI p.2.2.1, .dat tI p.2.2.2.1, .dat tI p.2.2.2.2.1, .dat tI p.2.2.2.2.2]], [(0, .box [.dat (.slice tI) L, .dat tI p.1]), (2, .arr tItem p.2.1)]⟩
noncomputable def S25 : Spec := genS [false, true] true ⟨[.ptr 0 0, .undef], [(0, .box [.undef, .undef])]⟩ [tI, (.slice tI), tI] (fun x => atOk 1000 x.2.2.1 && decide (0 ≤ x.1) && decide (x.1 ≤ 5)) (fun x => ⟨[.agg [.slc 2, .dat tI ((rightP x.2.1 x.2.2.1 x.1).2.2.1), .dat tI ((rightP x.2.1 x.2.2.1 x.1).2.2.2.1), .dat tI ((rightP x.2.1 x.2.2.1 x.1).2.2.2.2.1), .dat tI ((rightP x.2.1 x.2.2.1 x.1).2.2.2.2.2)]], [(0, .box [.dat (.slice tI) (x.2.1), .dat tI ((rightP x.2.1 x.2.2.1 x.1).1)]), (2, .arr tItem ((rightP x.2.1 x.2.2.1 x.1).2.1))]⟩)
noncomputable def En25 : Env := En7.add 25 S25
noncomputable def I49 : FnI := ⟨En25, ⟨[], [], []⟩, Tryz.f49, codeOf Tryz.f49, [.data tI], 1⟩
noncomputable def S49 : Spec := genS [false, true, true] true ⟨[.ptr 0 0, .undef, .undef], [(0, .box [.undef, .undef])]⟩ [tI, tI, (.slice tI), tI] (fun x => atOk 1 x.2.2.2.1) (fun x => ⟨[.dat tI (rangeS x.2.2.1 x.2.2.2.1 x.1 x.2.1)], [(0, .box [.dat (.slice tI) (x.2.2.1), .dat tI (rangeAt x.2.2.2.1 x.1 x.2.1)])]⟩)
noncomputable def En49 : Env := En25.add 49 S49
noncomputable def I26 : FnI := ⟨En49, ⟨[], [], []⟩, Tryz.f26, codeOf Tryz.f26, [.data tI], 1⟩
noncomputable def S26 : Spec := genS [false, true, true] true ⟨[.ptr 0 0, .undef, .undef], [(0, .box [.undef, .undef])]⟩ [tI, tI, (.slice tI), tI] (fun x => atOk 8 x.2.2.2.1) (fun x => ⟨[.dat tI ((oddS x.2.2.1 x.2.2.2.1 x.1 x.2.1).2)], [(0, .box [.dat (.slice tI) (x.2.2.1), .dat tI ((oddS x.2.2.1 x.2.2.2.1 x.1 x.2.1).1)])]⟩)
noncomputable def En26 : Env := En49.add 26 S26
noncomputable def I27 : FnI := ⟨En26, ⟨[], [], []⟩, Tryz.f27, codeOf Tryz.f27, [.own .str], 0⟩
noncomputable def S27 : Spec := genS [true] false ⟨[.undef], []⟩ [(.slice .str)] (fun x => decide (List.length x.1 ≤ 1000)) (fun x => ⟨[.slc 0], [(0, .arr .str (x.1))]⟩)
noncomputable def En27 : Env := En26.add 27 S27
noncomputable def I4 : FnI := ⟨En27, ⟨[], [], []⟩, Tryz.f4, codeOf Tryz.f4, [.data tPrgm], 1⟩
noncomputable def aProg (L : List Int) (at_ n : Int) : Int × Prgm := Classical.epsilon fun p => (at_ ≤ p.1 ∧ p.1 ≤ at_ + 400 ∧ p.2.1.length ≤ 5) ∧
  I4.run ⟨[.ptr 0 0, .dat tI n], [(0, .box [.dat (.slice tI) L, .dat tI at_])]⟩ = some ⟨[.dat tPrgm p.2], [(0, .box [.dat (.slice tI) L, .dat tI p.1])]⟩
noncomputable def S4 : Spec := genS [false, true] true ⟨[.ptr 0 0, .undef], [(0, .box [.undef, .undef])]⟩ [tI, (.slice tI), tI] (fun x => atOk 2000 x.2.2.1 && decide (4 ≤ x.1) && decide (x.1 ≤ 5)) (fun x => ⟨[.dat tPrgm ((aProg x.2.1 x.2.2.1 x.1).2)], [(0, .box [.dat (.slice tI) (x.2.1), .dat tI ((aProg x.2.1 x.2.2.1 x.1).1)])]⟩)
noncomputable def En4 : Env := En27.add 4 S4
noncomputable def I5 : FnI := ⟨En4, ⟨[], [], []⟩, Tryz.f5, codeOf Tryz.f5, [.data tI], 1⟩
noncomputable def S5 : Spec := genS [false] true ⟨[.ptr 0 0], [(0, .box [.undef, .undef])]⟩ [(.slice tI), tI] (fun x => t5_ok x.1 x.2.1) (fun x => ⟨[.dat tI (t5_0 x.1 x.2.1)], [(0, .box [.dat (.slice tI) x.1, .dat tI (t5_1 x.1 x.2.1)])]⟩)
noncomputable def En5 : Env := En4.add 5 S5
noncomputable def I9 : FnI := ⟨En5, ⟨[], [], []⟩, Tryz.f9, codeOf Tryz.f9, [.own tItem], 0⟩
noncomputable def S9 : Spec := genS [true] true ⟨[.undef], []⟩ [(.slice tItem)] (fun x => decide (List.length x.1 ≤ 1000)) (fun x => ⟨[.slc 0], [(0, .arr tItem (x.1))]⟩)
noncomputable def En9 : Env := En5.add 9 S9
noncomputable def I51 : FnI := ⟨En9, ⟨[], [], []⟩, Tryz.f51, codeOf Tryz.f51, [.data .bool], 0⟩
noncomputable def S51 : Spec := genS [true, true, true] false ⟨[.undef, .undef, .undef], []⟩ [tI, tI, tI] (fun x => true) (fun x => ⟨[.dat .bool (outside x.1 x.2.1 x.2.2.1)], []⟩)
noncomputable def En51 : Env := En9.add 51 S51
noncomputable def I31 : FnI := ⟨En51, ⟨[], [], []⟩, Tryz.f31, codeOf Tryz.f31, [.data .bool], 0⟩
noncomputable def S31 : Spec := genS [true] false ⟨[.undef], []⟩ [tI] (fun x => true) (fun x => ⟨[.dat .bool (t31_0 x.1)], []⟩)
noncomputable def En31 : Env := En51.add 31 S31
noncomputable def I61 : FnI := ⟨En31, ⟨[], [], []⟩, Tryz.f61, codeOf Tryz.f61, [.data tI], 0⟩
noncomputable def S61 : Spec := genS [true, true, true] false ⟨[.undef, .undef, .undef], []⟩ [tPrgm, tItem, tItem] (fun x => true) (fun x => ⟨[.dat tI (t61_0 x.1 x.2.1 x.2.2.1)], []⟩)
noncomputable def En61 : Env := En31.add 61 S61
noncomputable def I52 : FnI := ⟨En61, ⟨[], [], []⟩, Tryz.f52, codeOf Tryz.f52, [.data tI], 0⟩
noncomputable def S52 : Spec := genS [true, true] false ⟨[.undef, .undef], []⟩ [tPrgm, tI] (fun x => decide (0 ≤ x.2.1) && decide (x.2.1 + 1 < (List.length x.1.1 : Int)) && decide (List.length x.1.1 ≤ 1000)) (fun x => ⟨[.dat tI (behindF x.1 x.2.1)], []⟩)
noncomputable def En52 : Env := En61.add 52 S52
noncomputable def I32 : FnI := ⟨En52, ⟨[(0, [1, 4, 5, 9, 10, 11], [(4, tI)])], [], []⟩, Tryz.f32, codeOf Tryz.f32, [.own tI, .data tI], 0⟩
noncomputable def S32 : Spec := genS [true] false ⟨[.undef], []⟩ [tPrgm] (fun x => decide (List.length x.1.1 ≤ 1000)) (fun x => ⟨[.slc 0, .dat tI ((begGo x.1 0 0 x.1.1).2)], [(0, .arr tI ((begGo x.1 0 0 x.1.1).1))]⟩)
noncomputable def En32 : Env := En52.add 32 S32
noncomputable def I64 : FnI := ⟨En32, ⟨[], [], []⟩, Tryz.f64, codeOf Tryz.f64, [.data .bool], 1⟩
noncomputable def S64 : Spec := genS [true] true ⟨[.undef, .ptr 0 0], [(0, .box [.undef, .undef, .undef, .undef])]⟩ [tItem, .str, .str, tI, (.slice .str)] (fun x => true) (fun x => ⟨[.dat .bool (t64_0 x.1 x.2.1 x.2.2.1 x.2.2.2.1 x.2.2.2.2.1)], [(0, .box [.dat .str x.2.1, .dat .str x.2.2.1, .dat tI x.2.2.2.1, .dat (.slice .str) x.2.2.2.2.1])]⟩)
noncomputable def En64 : Env := En32.add 64 S64
noncomputable def I41 : FnI := ⟨En64, ⟨[(0, [0, 1, 7, 8], [])], [], []⟩, Tryz.f41, codeOf Tryz.f41, [.data tI], 1⟩
noncomputable def S41 : Spec := genS [false, false] true ⟨[.undef, .clos 64 [.ptr 0 0]], [(0, .box [.undef, .undef, .undef, .undef])]⟩ [(.slice tItem), .str, .str, tI, (.slice .str)] (fun x => decide (List.length x.1 ≤ 1000)) (fun x => ⟨[.dat tI (idxBy (fun o => t64_0 o x.2.1 x.2.2.1 x.2.2.2.1 x.2.2.2.2.1) x.1 0)], [(0, .box [.dat .str (x.2.1), .dat .str (x.2.2.1), .dat tI (x.2.2.2.1), .dat (.slice .str) (x.2.2.2.2.1)])]⟩)
noncomputable def En41 : Env := En64.add 41 S41
noncomputable def I63 : FnI := ⟨En41, ⟨[], [], []⟩, Tryz.f63, codeOf Tryz.f63, [.data .bool], 1⟩
noncomputable def S63 : Spec := genS [true, false] true ⟨[.undef, .clos 64 [.ptr 0 0]], [(0, .box [.undef, .undef, .undef, .undef])]⟩ [(.slice tItem), .str, .str, tI, (.slice .str)] (fun x => t63_ok x.1 x.2.1 x.2.2.1 x.2.2.2.1 x.2.2.2.2.1) (fun x => ⟨[.dat .bool (t63_0 x.1 x.2.1 x.2.2.1 x.2.2.2.1 x.2.2.2.2.1)], [(0, .box [.dat .str x.2.1, .dat .str x.2.2.1, .dat tI x.2.2.2.1, .dat (.slice .str) x.2.2.2.2.1])]⟩)
noncomputable def En63 : Env := En41.add 63 S63
noncomputable def S69 : Spec := genS [true, true] false ⟨[.undef, .undef], []⟩ [.str, (.int .u8)] (fun x => true) (fun x => ⟨[.dat tI (indexB x.1 x.2.1)], []⟩)
noncomputable def En69 : Env := En63.add 69 S69
noncomputable def S70 : Spec := genS [true, true] false ⟨[.undef, .undef], []⟩ [.str, .str] (fun x => trimOk x.1 x.2.1) (fun x => ⟨[.dat .str (trimB x.1 x.2.1)], []⟩)
noncomputable def En70 : Env := En69.add 70 S70
noncomputable def I62 : FnI := ⟨En70, ⟨[], [], []⟩, Tryz.f62, codeOf Tryz.f62, [.data .bool], 0⟩
noncomputable def S62 : Spec := genS [true] false ⟨[.undef], []⟩ [.str] (fun x => true) (fun x => ⟨[.dat .bool (isKey x.1)], []⟩)
noncomputable def En62 : Env := En70.add 62 S62
noncomputable def I65 : FnI := ⟨En62, ⟨[(0, [0, 11, 12, 13], [])], [], []⟩, Tryz.f65, codeOf Tryz.f65, [.data tI], 0⟩
noncomputable def S65 : Spec := genS [true] false ⟨[.undef], []⟩ [(.slice .str)] (fun x => true) (fun x => ⟨[.dat tI (partsF isKey x.1)], []⟩)
noncomputable def En65 : Env := En62.add 65 S65
noncomputable def I54 : FnI := ⟨En65, ⟨[(0, [0, 9, 10, 11], [])], [], []⟩, Tryz.f54, codeOf Tryz.f54, [.data tI], 0⟩
noncomputable def S54 : Spec := genS [true] false ⟨[.undef], []⟩ [(.slice tItem)] (fun x => true) (fun x => ⟨[.dat tI (checkItems isKey x.1)], []⟩)
noncomputable def En54 : Env := En65.add 54 S54
noncomputable def I35 : FnI := ⟨En54, ⟨[], [], []⟩, Tryz.f35, codeOf Tryz.f35, [.data tI], 0⟩
noncomputable def S35 : Spec := genS [true] false ⟨[.undef], []⟩ [tPrgm] (fun x => true) (fun x => ⟨[.dat tI (checkProg isKey x.1)], []⟩)
noncomputable def En35 : Env := En54.add 35 S35
noncomputable def I29 : FnI := ⟨En35, ⟨[], [], []⟩, Tryz.f29, codeOf Tryz.f29, [.data tI], 0⟩
noncomputable def S29 : Spec := genS [true, true] false ⟨[.undef, .undef], []⟩ [tPrgm, tI] (fun x => true) (fun x => ⟨[.dat tI (fromF x.1 x.2.1)], []⟩)
noncomputable def En29 : Env := En35.add 29 S29
noncomputable def I50 : FnI := ⟨En29, ⟨[], [], []⟩, Tryz.f50, codeOf Tryz.f50, [.data .bool], 1⟩
noncomputable def S50 : Spec := genS [true] true ⟨[.undef, .ptr 0 0], [(0, .box [.undef])]⟩ [tItem, .str] (fun x => true) (fun x => ⟨[.dat .bool (t50_0 x.1 x.2.1)], [(0, .box [.dat .str x.2.1])]⟩)
noncomputable def En50 : Env := En29.add 50 S50
noncomputable def I41a : FnI := ⟨En50, ⟨[(0, [0, 1, 7, 8], [])], [], []⟩, Tryz.f41, codeOf Tryz.f41, [.data tI], 1⟩
noncomputable def S41a : Spec := genS [false, false] true ⟨[.undef, .clos 50 [.ptr 0 0]], [(0, .box [.undef])]⟩ [(.slice tItem), .str] (fun x => decide (List.length x.1 ≤ 1000)) (fun x => ⟨[.dat tI (idxBy (fun o => t50_0 o x.2.1) x.1 0)], [(0, .box [.dat .str (x.2.1)])]⟩)
noncomputable def SS41a : Spec := orS S41 S41a
noncomputable def En41a : Env := En50.add 41 SS41a
noncomputable def I30 : FnI := ⟨En41a, ⟨[], [], []⟩, Tryz.f30, codeOf Tryz.f30, [.data tI], 0⟩
noncomputable def S30 : Spec := genS [true, true] false ⟨[.undef, .undef], []⟩ [tPrgm, .str] (fun x => t30_ok x.1 x.2.1) (fun x => ⟨[.dat tI (t30_0 x.1 x.2.1)], []⟩)
noncomputable def En30 : Env := En41a.add 30 S30
noncomputable def I11 : FnI := ⟨En30, ⟨[], [], []⟩, Tryz.f11, codeOf Tryz.f11, [.data tI, .data tI], 0⟩
noncomputable def S11 : Spec := genS [true, true, true, true] false ⟨[.undef, .undef, .undef, .undef], []⟩ [tPrgm, tI, .str, tI] (fun x => true) (fun x => ⟨[.dat tI ((lateF x.1 x.2.1 x.2.2.1 x.2.2.2.1).1), .dat tI ((lateF x.1 x.2.1 x.2.2.1 x.2.2.2.1).2)], []⟩)
noncomputable def En11 : Env := En30.add 11 S11
noncomputable def I34 : FnI := ⟨En11, ⟨[], [], []⟩, Tryz.f34, codeOf Tryz.f34, [.data .bool], 2⟩
noncomputable def S34 : Spec := genS [true] true ⟨[.undef, .ptr 0 0], [(0, .box [.mp 1]), (1, .map .str .bool [])]⟩ [.str, (.slice (.pair .str .bool))] (fun x => true) (fun x => ⟨[.dat .bool (t34_0 x.1 x.2.1)], [(0, .box [.mp 1]), (1, .map .str .bool x.2.1)]⟩)
noncomputable def En34 : Env := En11.add 34 S34
noncomputable def I53 : FnI := ⟨En34, ⟨[(0, [0, 1, 7, 8], [])], [], []⟩, Tryz.f53, codeOf Tryz.f53, [.data tI], 2⟩
noncomputable def S53 : Spec := genS [true, false] true ⟨[.undef, .clos 34 [.ptr 0 0]], [(0, .box [.mp 1]), (1, .map .str .bool [])]⟩ [(.slice .str), (.slice (.pair .str .bool))] (fun x => decide (List.length x.1 ≤ 1000)) (fun x => ⟨[.dat tI (idxBy (fun o => t34_0 o x.2.1) x.1 0)], [(0, .box [.mp 1]), (1, .map .str .bool (x.2.1))]⟩)
noncomputable def En53 : Env := En34.add 53 S53
noncomputable def I33 : FnI := ⟨En53, ⟨[], [], []⟩, Tryz.f33, codeOf Tryz.f33, [.data .bool], 2⟩
noncomputable def S33 : Spec := genS [true, false] true ⟨[.undef, .clos 34 [.ptr 0 0]], [(0, .box [.mp 1]), (1, .map .str .bool [])]⟩ [(.slice .str), (.slice (.pair .str .bool))] (fun x => t33_ok x.1 x.2.1) (fun x => ⟨[.dat .bool (t33_0 x.1 x.2.1)], [(0, .box [.mp 1]), (1, .map .str .bool x.2.1)]⟩)
noncomputable def En33 : Env := En53.add 33 S33
noncomputable def I12 : FnI := ⟨En33, ⟨[(0, [1, 2, 9, 11, 12, 34, 35, 36], [(12, .str)]), (2, [1, 2, 9, 11, 12, 34, 35, 36, 65, 66, 67], [])], [], []⟩, Tryz.f12, codeOf Tryz.f12, [.data (.slice .str), .data tI], 0⟩
noncomputable def S12 : Spec := genS [true, true, true] true ⟨[.undef, .undef, .undef], []⟩ [tPrgm, tI, tI] (fun x => true) (fun x => ⟨[.dat (.slice .str) ((leavesF x.1 x.2.1 x.2.2.1).1), .dat tI ((leavesF x.1 x.2.1 x.2.2.1).2)], []⟩)
noncomputable def En12 : Env := En33.add 12 S12
noncomputable def I23 : FnI := ⟨En12, ⟨[(0, [0, 1, 12, 13], [])], [], []⟩, Tryz.f23, codeOf Tryz.f23, [.data .bool], 0⟩
noncomputable def S23 : Spec := genS [true, true] false ⟨[.undef, .undef], []⟩ [(.slice .str), (.slice .str)] (fun x => decide (List.length x.1 ≤ 1000)) (fun x => ⟨[.dat .bool (x.1 == x.2.1)], []⟩)
noncomputable def En23 : Env := En12.add 23 S23
noncomputable def I36 : FnI := ⟨En23, ⟨[], [], []⟩, Tryz.f36, codeOf Tryz.f36, [.data .bool], 0⟩
noncomputable def S36 : Spec := genS [true, true] false ⟨[.undef, .undef], []⟩ [tItem, tItem] (fun x => decide (List.length x.1.2.2.2 ≤ 1000)) (fun x => ⟨[.dat .bool (sameF x.1 x.2.1)], []⟩)
noncomputable def En36 : Env := En23.add 36 S36
noncomputable def I13 : FnI := ⟨En36, ⟨[(0, [2, 3, 21, 22, 23], []), (2, [2, 3, 11, 12, 13, 34, 35, 36], [(11, .str), (13, .str)]), (5, [2, 11, 12, 13, 68, 69, 70], [(12, .str)])], [], []⟩, Tryz.f13, codeOf Tryz.f13, [.data (.slice .str), .data (.slice .str), .data (.slice .str), .data tI], 0⟩
noncomputable def S13 : Spec := genS [true, true] true ⟨[.undef, .undef], []⟩ [tPrgm, tPrgm] (fun x => true) (fun x => ⟨[.dat (.slice .str) ((difF x.1 x.2.1).1), .dat (.slice .str) ((difF x.1 x.2.1).2.1), .dat (.slice .str) ((difF x.1 x.2.1).2.2.1), .dat tI ((difF x.1 x.2.1).2.2.2)], []⟩)
noncomputable def En13 : Env := En36.add 13 S13
noncomputable def I42 : FnI := ⟨En13, ⟨[], [], []⟩, Tryz.f42, codeOf Tryz.f42, [.data .bool], 1⟩
noncomputable def S42 : Spec := genS [true] true ⟨[.undef, .ptr 0 0], [(0, .box [.undef])]⟩ [tItem, .str] (fun x => true) (fun x => ⟨[.dat .bool (t42_0 x.1 x.2.1)], [(0, .box [.dat .str x.2.1])]⟩)
noncomputable def En42 : Env := En13.add 42 S42
noncomputable def I41b : FnI := ⟨En42, ⟨[(0, [0, 1, 7, 8], [])], [], []⟩, Tryz.f41, codeOf Tryz.f41, [.data tI], 1⟩
noncomputable def S41b : Spec := genS [false, false] true ⟨[.undef, .clos 42 [.ptr 0 0]], [(0, .box [.undef])]⟩ [(.slice tItem), .str] (fun x => decide (List.length x.1 ≤ 1000)) (fun x => ⟨[.dat tI (idxBy (fun o => t42_0 o x.2.1) x.1 0)], [(0, .box [.dat .str (x.2.1)])]⟩)
noncomputable def SS41b : Spec := orS SS41a S41b
noncomputable def En41b : Env := En42.add 41 SS41b
noncomputable def I19 : FnI := ⟨En41b, ⟨[], [], []⟩, Tryz.f19, codeOf Tryz.f19, [.data tI], 0⟩
noncomputable def S19 : Spec := genS [true, true] false ⟨[.undef, .undef], []⟩ [(.slice tItem), .str] (fun x => t19_ok x.1 x.2.1) (fun x => ⟨[.dat tI (t19_0 x.1 x.2.1)], []⟩)
noncomputable def En19 : Env := En41b.add 19 S19
noncomputable def I38 : FnI := ⟨En19, ⟨[], [], []⟩, Tryz.f38, codeOf Tryz.f38, [.data .bool], 0⟩
noncomputable def S38 : Spec := genS [true, true, true] false ⟨[.undef, .undef, .undef], []⟩ [tI, tI, tI] (fun x => true) (fun x => ⟨[.dat .bool (inR x.1 x.2.1 x.2.2.1)], []⟩)
noncomputable def En38 : Env := En19.add 38 S38
noncomputable def I66 : FnI := ⟨En38, ⟨[(0, [0, 1, 7, 8], [])], [], []⟩, Tryz.f66, codeOf Tryz.f66, [.data .bool], 0⟩
noncomputable def S66 : Spec := genS [true, true] false ⟨[.undef, .undef], []⟩ [.str, .str] (fun x => decide (List.length x.1 ≤ 1000000)) (fun x => ⟨[.dat .bool (onlyB x.1 x.2.1)], []⟩)
noncomputable def En66 : Env := En38.add 66 S66
noncomputable def I55 : FnI := ⟨En66, ⟨[], [], []⟩, Tryz.f55, codeOf Tryz.f55, [.data .bool], 0⟩
noncomputable def S55 : Spec := genS [true] false ⟨[.undef], []⟩ [.str] (fun x => true) (fun x => ⟨[.dat .bool (keyR x.1)], []⟩)
noncomputable def En55 : Env := En66.add 55 S55
noncomputable def I56 : FnI := ⟨En55, ⟨[(0, [0, 5, 6, 7], [])], [], []⟩, Tryz.f56, codeOf Tryz.f56, [.data tI], 0⟩
noncomputable def S56 : Spec := genS [true] false ⟨[.undef], []⟩ [(.slice .str)] (fun x => decide (List.length x.1 ≤ 1000)) (fun x => ⟨[.dat tI (risingGo keyR none x.1)], []⟩)
noncomputable def En56 : Env := En55.add 56 S56
noncomputable def I37 : FnI := ⟨En56, ⟨[(0, [0, 9, 10, 11], [])], [], []⟩, Tryz.f37, codeOf Tryz.f37, [.data tI], 0⟩
noncomputable def S37 : Spec := genS [true] false ⟨[.undef], []⟩ [(.slice tItem)] (fun x => true) (fun x => ⟨[.dat tI (checkItems keyR x.1)], []⟩)
noncomputable def En37 : Env := En56.add 37 S37
noncomputable def I14 : FnI := ⟨En37, ⟨[], [], []⟩, Tryz.f14, codeOf Tryz.f14, [.data tI], 0⟩
noncomputable def S14 : Spec := genS [true] false ⟨[.undef], []⟩ [tPrgm] (fun x => true) (fun x => ⟨[.dat tI (checkProg keyR x.1)], []⟩)
noncomputable def En14 : Env := En37.add 14 S14
noncomputable def I39 : FnI := ⟨En14, ⟨[], [], []⟩, Tryz.f39, codeOf Tryz.f39, [.data .bool], 0⟩
noncomputable def S39 : Spec := genS [true] false ⟨[.undef], []⟩ [tI] (fun x => true) (fun x => ⟨[.dat .bool (t39_0 x.1)], []⟩)
noncomputable def En39 : Env := En14.add 39 S39
noncomputable def I57 : FnI := ⟨En39, ⟨[], [], []⟩, Tryz.f57, codeOf Tryz.f57, [.data tI], 0⟩
noncomputable def S57 : Spec := genS [true, true] false ⟨[.undef, .undef], []⟩ [tPrgm, tI] (fun x => decide (0 ≤ x.2.1) && decide (x.2.1 + 1 < (List.length x.1.1 : Int)) && decide (List.length x.1.1 ≤ 1000)) (fun x => ⟨[.dat tI (behindF x.1 x.2.1)], []⟩)
noncomputable def En57 : Env := En39.add 57 S57
noncomputable def I43 : FnI := ⟨En57, ⟨[(0, [1, 2, 5, 9, 10, 11], [(5, tTimed)])], [], []⟩, Tryz.f43, codeOf Tryz.f43, [.own tTimed], 0⟩
noncomputable def S43 : Spec := genS [true, true] false ⟨[.undef, .undef], []⟩ [tPrgm, tI] (fun x => decide (List.length x.1.1 ≤ 1000)) (fun x => ⟨[.slc 0], [(0, .arr tTimed (timGo x.1 0 x.2.1 x.1.1))]⟩)
noncomputable def En43 : Env := En57.add 43 S43
noncomputable def I40 : FnI := ⟨En43, ⟨[], [], []⟩, Tryz.f40, codeOf Tryz.f40, [.data tI], 0⟩
noncomputable def S40 : Spec := genS [true] false ⟨[.undef], []⟩ [tPrgm] (fun x => decide (List.length x.1.1 ≤ 1000)) (fun x => ⟨[.dat tI (longR x.1)], []⟩)
noncomputable def En40 : Env := En43.add 40 S40
noncomputable def I15 : FnI := ⟨En40, ⟨[], [], []⟩, Tryz.f15, codeOf Tryz.f15, [.data tI], 0⟩
noncomputable def S15 : Spec := genS [true, true] false ⟨[.undef, .undef], []⟩ [tPrgm, tI] (fun x => decide (List.length x.1.1 ≤ 1000)) (fun x => ⟨[.dat tI (beginF x.1 x.2.1)], []⟩)
noncomputable def En15 : Env := En40.add 15 S15
noncomputable def I16 : FnI := ⟨En15, ⟨[(0, [5, 6, 7], [])], [], []⟩, Tryz.f16, codeOf Tryz.f16, [.data tI], 0⟩
noncomputable def S16 : Spec := genS [true] false ⟨[.undef], []⟩ [(.slice tI)] (fun x => decide (List.length x.1 ≤ 1000)) (fun x => ⟨[.dat tI (firstE x.1)], []⟩)
noncomputable def En16 : Env := En15.add 16 S16
noncomputable def I17 : FnI := ⟨En16, ⟨[], [], []⟩, Tryz.f17, codeOf Tryz.f17, [.data tI], 0⟩
noncomputable def S17 : Spec := genS [true] false ⟨[.undef], []⟩ [tI] (fun x => true) (fun x => ⟨[.dat tI (t17_0 x.1)], []⟩)
noncomputable def En17 : Env := En16.add 17 S17
noncomputable def I18 : FnI := ⟨En17, ⟨[], [], []⟩, Tryz.f18, codeOf Tryz.f18, [.data tI], 0⟩
noncomputable def S18 : Spec := genS [true, true] false ⟨[.undef, .undef], []⟩ [.bool, tI] (fun x => true) (fun x => ⟨[.dat tI (t18_0 x.1 x.2.1)], []⟩)
noncomputable def En18 : Env := En17.add 18 S18
noncomputable def I20 : FnI := ⟨En18, ⟨[], [], []⟩, Tryz.f20, codeOf Tryz.f20, [.data tI], 0⟩
noncomputable def S20 : Spec := genS [true, true, true, true] false ⟨[.undef, .undef, .undef, .undef], []⟩ [tPrgm, tI, .str, tI] (fun x => decide (List.length x.1.1 ≤ 1000) && decide (0 ≤ itemIx x.1.1 x.2.2.1)) (fun x => ⟨[.dat tI (lateR x.1 x.2.1 x.2.2.1 x.2.2.2.1)], []⟩)
noncomputable def En20 : Env := En18.add 20 S20
noncomputable def I60 : FnI := ⟨En20, ⟨[(0, [0, 1, 7, 8], [])], [], []⟩, Tryz.f60, codeOf Tryz.f60, [.data tI], 0⟩
noncomputable def S60 : Spec := genS [true, true] false ⟨[.undef, .undef], []⟩ [(.slice .str), .str] (fun x => decide (List.length x.1 ≤ 1000000)) (fun x => ⟨[.dat tI (idxS x.2.1 x.1 0)], []⟩)
noncomputable def En60 : Env := En20.add 60 S60
noncomputable def I46 : FnI := ⟨En60, ⟨[], [], []⟩, Tryz.f46, codeOf Tryz.f46, [.data .bool], 0⟩
noncomputable def S46 : Spec := genS [true, true] false ⟨[.undef, .undef], []⟩ [(.slice .str), .str] (fun x => decide (List.length x.1 ≤ 1000000)) (fun x => ⟨[.dat .bool (hasS x.1 x.2.1)], []⟩)
noncomputable def En46 : Env := En60.add 46 S46
noncomputable def I45 : FnI := ⟨En46, ⟨[], [], []⟩, Tryz.f45, codeOf Tryz.f45, [.data .bool], 1⟩
noncomputable def S45 : Spec := genS [true] true ⟨[.undef, .ptr 0 0], [(0, .box [.undef])]⟩ [.str, (.slice .str)] (fun x => t45_ok x.1 x.2.1) (fun x => ⟨[.dat .bool (t45_0 x.1 x.2.1)], [(0, .box [.dat (.slice .str) x.2.1])]⟩)
noncomputable def En45 : Env := En46.add 45 S45
noncomputable def I53a : FnI := ⟨En45, ⟨[(0, [0, 1, 7, 8], [])], [], []⟩, Tryz.f53, codeOf Tryz.f53, [.data tI], 1⟩
noncomputable def S53a : Spec := genS [true, false] true ⟨[.undef, .clos 45 [.ptr 0 0]], [(0, .box [.undef])]⟩ [(.slice .str), (.slice .str)] (fun x => decide (List.length x.1 ≤ 1000) && decide (List.length x.2.1 ≤ 1000000)) (fun x => ⟨[.dat tI (idxBy (fun o => t45_0 o x.2.1) x.1 0)], [(0, .box [.dat (.slice .str) (x.2.1)])]⟩)
noncomputable def SS53a : Spec := orS S53 S53a
noncomputable def En53a : Env := En45.add 53 SS53a
noncomputable def I33a : FnI := ⟨En53a, ⟨[], [], []⟩, Tryz.f33, codeOf Tryz.f33, [.data .bool], 1⟩
noncomputable def S33a : Spec := genS [true, false] true ⟨[.undef, .clos 45 [.ptr 0 0]], [(0, .box [.undef])]⟩ [(.slice .str), (.slice .str)] (fun x => t33a_ok x.1 x.2.1) (fun x => ⟨[.dat .bool (t33a_0 x.1 x.2.1)], [(0, .box [.dat (.slice .str) x.2.1])]⟩)
noncomputable def SS33a : Spec := orS S33 S33a
noncomputable def En33a : Env := En53a.add 33 SS33a
noncomputable def I95 : FnI := ⟨En33a, ⟨[], [], []⟩, Tryz.f95, codeOf Tryz.f95, [.data .bool], 0⟩
noncomputable def S95 : Spec := genS [true] false ⟨[.undef], []⟩ [.str] (fun x => true) (fun x => ⟨[.dat .bool (t95_0 x.1)], []⟩)
noncomputable def En95 : Env := En33a.add 95 S95
noncomputable def I77 : FnI := ⟨En95, ⟨[], [], []⟩, Tryz.f77, codeOf Tryz.f77, [.data .bool], 0⟩
noncomputable def S77 : Spec := genS [true, true] false ⟨[.undef, .undef], []⟩ [.str, .str] (fun x => true) (fun x => ⟨[.dat .bool (t77_0 x.1 x.2.1)], []⟩)
noncomputable def En77 : Env := En95.add 77 S77
noncomputable def I71 : FnI := ⟨En77, ⟨[(0, [0, 1, 2, 6], []), (2, [0, 1, 2, 6, 7], [])], [], []⟩, Tryz.f71, codeOf Tryz.f71, [], 1⟩
noncomputable def S71 : Spec := genS [false, true, true] true ⟨[.slc 0, .undef, .undef], [(0, .arr .str [])]⟩ [tI, tI, (.slice .str)] (fun x => decide (List.length x.2.2.1 = 0) && x.1 == 0 && x.2.1 == 0) (fun x => ⟨[], [(0, .arr .str (x.2.2.1))]⟩)
noncomputable def En71 : Env := En77.add 71 S71
noncomputable def I67 : FnI := ⟨En71, ⟨[(0, [0, 1, 2, 3, 8, 9], [])], [], []⟩, Tryz.f67, codeOf Tryz.f67, [], 1⟩
noncomputable def S67 : Spec := genS [false, true, true, true] true ⟨[.slc 0, .undef, .undef, .undef], [(0, .arr .str [])]⟩ [tI, tI, tI, (.slice .str)] (fun x => decide (List.length x.2.2.2.1 = 0) && x.1 == 0 && x.2.1 == 0) (fun x => ⟨[], [(0, .arr .str (x.2.2.2.1))]⟩)
noncomputable def En67 : Env := En71.add 67 S67
noncomputable def I80 : FnI := ⟨En67, ⟨[], [], []⟩, Tryz.f80, codeOf Tryz.f80, [.data tI], 0⟩
noncomputable def S80 : Spec := genS [true] false ⟨[.undef], []⟩ [(.int .u32)] (fun x => t80_ok x.1) (fun x => ⟨[.dat tI (t80_0 x.1)], []⟩)
noncomputable def En80 : Env := En67.add 80 S80
noncomputable def I81 : FnI := ⟨En80, ⟨[], [], []⟩, Tryz.f81, codeOf Tryz.f81, [.data tI], 0⟩
noncomputable def S81 : Spec := genS [true] false ⟨[.undef], []⟩ [(.int .u64)] (fun x => t81_ok x.1) (fun x => ⟨[.dat tI (t81_0 x.1)], []⟩)
noncomputable def En81 : Env := En80.add 81 S81
noncomputable def I68 : FnI := ⟨En81, ⟨[], [], []⟩, Tryz.f68, codeOf Tryz.f68, [.data tI], 0⟩
noncomputable def S68 : Spec := genS [true] false ⟨[.undef], []⟩ [(.int .u64)] (fun x => t68_ok x.1) (fun x => ⟨[.dat tI (t68_0 x.1)], []⟩)
noncomputable def En68 : Env := En81.add 68 S68
noncomputable def I58 : FnI := ⟨En68, ⟨[], [], []⟩, Tryz.f58, codeOf Tryz.f58, [], 1⟩
noncomputable def S58 : Spec := genS [false] true ⟨[.slc 0], [(0, .arr .str [])]⟩ [(.slice .str)] (fun x => decide (List.length x.1 = 0)) (fun x => ⟨[], [(0, .arr .str (x.1))]⟩)
noncomputable def En58 : Env := En68.add 58 S58
noncomputable def S58a : Spec := genS [false] true ⟨[.slc 0], [(0, .arr .str [])]⟩ [(.slice .str)] (fun x => decide (List.length x.1 ≤ 1000000)) (fun x => ⟨[], [(0, .arr .str (sortB x.1))]⟩)
noncomputable def En58a : Env := En58.add 58 S58a
noncomputable def I59 : FnI := ⟨En58a, ⟨[(0, [0, 3], []), (2, [0, 3, 4, 5], [])], [100028, 100056, 59], []⟩, Tryz.f59, codeOf Tryz.f59, [.take .str], 1⟩
noncomputable def S59 : Spec := genS [false] true ⟨[.slc 0], [(0, .arr .str [])]⟩ [(.slice .str)] (fun x => decide (List.length x.1 ≤ 1000000)) (fun x => ⟨[.dat (.slice .str) (compS x.1)], [(0, .dead)]⟩)
noncomputable def En59 : Env := En58a.add 59 S59
noncomputable def I44 : FnI := ⟨En59, ⟨[(0, [3, 6, 7, 8], [(3, .str)])], [], []⟩, Tryz.f44, codeOf Tryz.f44, [.data (.slice .str)], 0⟩
noncomputable def S44 : Spec := genS [true] true ⟨[.undef], []⟩ [(.slice tItem)] (fun x => decide (List.length x.1 ≤ 100) && partsOk x.1) (fun x => ⟨[.dat (.slice .str) (partsR x.1)], []⟩)
noncomputable def En44 : Env := En59.add 44 S44
noncomputable def I21 : FnI := ⟨En44, ⟨[(0, [2, 3, 7, 13, 14, 15], [(7, .str)])], [], []⟩, Tryz.f21, codeOf Tryz.f21, [.data (.slice .str)], 0⟩
noncomputable def S21 : Spec := genS [true, true, true] true ⟨[.undef, .undef, .undef], []⟩ [tPrgm, tI, tI] (fun x => decide (List.length x.1.1 ≤ 100) && partsOk x.1.1) (fun x => ⟨[.dat (.slice .str) (lvR x.1 x.2.1 x.2.2.1)], []⟩)
noncomputable def En21 : Env := En44.add 21 S21
noncomputable def I47 : FnI := ⟨En21, ⟨[], [], []⟩, Tryz.f47, codeOf Tryz.f47, [.data .bool], 0⟩
noncomputable def S47 : Spec := genS [true, true] false ⟨[.undef, .undef], []⟩ [tItem, tItem] (fun x => decide (List.length x.1.2.2.2 ≤ 1000)) (fun x => ⟨[.dat .bool (x.1 == x.2.1)], []⟩)
noncomputable def En47 : Env := En21.add 47 S47
noncomputable def I22 : FnI := ⟨En47, ⟨[(0, [2, 3, 7, 8, 9, 16, 17, 18], [(7, .str), (9, .str)]), (3, [2, 7, 8, 9, 51, 52, 53], [(8, .str)])], [], []⟩, Tryz.f22, codeOf Tryz.f22, [.data (.slice .str), .data (.slice .str), .data (.slice .str)], 0⟩
noncomputable def S22 : Spec := genS [true, true] true ⟨[.undef, .undef], []⟩ [tPrgm, tPrgm] (fun x => decide (List.length x.1.1 ≤ 100) && partsOk x.1.1 && decide (List.length x.2.1.1 ≤ 100)) (fun x => ⟨[.dat (.slice .str) (goneF x.1.1 x.2.1.1), .dat (.slice .str) (goneF x.2.1.1 x.1.1), .dat (.slice .str) (otherR x.1.1 x.2.1.1)], []⟩)
noncomputable def En22 : Env := En47.add 22 S22
noncomputable def I48 : FnI := ⟨En22, ⟨[], [], []⟩, Tryz.f48, codeOf Tryz.f48, [.data tI, .data tI], 0⟩
noncomputable def S48 : Spec := genS [true] false ⟨[.undef], []⟩ [tPrgm] (fun x => true) (fun x => ⟨[.dat tI ((longP x.1).1), .dat tI ((longP x.1).2)], []⟩)
noncomputable def En48 : Env := En22.add 48 S48
noncomputable def I24 : FnI := ⟨En48, ⟨[], [], []⟩, Tryz.f24, codeOf Tryz.f24, [.data .bool], 0⟩
noncomputable def S24 : Spec := genS [] false ⟨[], []⟩ [] (fun x => true) (fun x => ⟨[.dat .bool true], []⟩)
noncomputable def En24 : Env := En48.add 24 S24
noncomputable def I3 : FnI := ⟨En24, ⟨[], [], [(4, [(0, tItem)]), (5, [(0, tItem)]), (27, [(0, tI)]), (28, [(0, tI)])]⟩, Tryz.f3, codeOf Tryz.f3, [.data .bool], 0⟩
noncomputable def S3 : Spec := genS [true] false ⟨[.undef], []⟩ [(.slice tI)] (fun x => true) (fun x => ⟨[.dat .bool true], []⟩)
end Go.Ev.N
