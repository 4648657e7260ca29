import Derived.Test.YtpajbcpdhpnjlaaDoorA2
import Derived.IntWalk
import Derived.Lib.Bytealg
import Derived.Lib.SlTrimSet
import Derived.Test.YtpajbcpdhpnjlaaDoorProg
import Derived.Below
import Derived.Shelf.Small.Strs
import Derived.Shelf.Strings.SlTrimAscii
set_option linter.unusedSimpArgs false
set_option linter.unusedVariables false
namespace Go.Ev
open Go

/-! ### short ways to write things -/
abbrev wrap : IntKind → Int → Int := IntKind.wrap
abbrev tI : Tc := .int .i64
def codeOf (f : Func) : Code := f.body.getD .skip

/-- The way to the loop in block t. -/
def stk (t : Nat) : Nat → Code → List It → Option (List It)
  | b, .seq x y, k => match stk t b x (.code b y :: k) with
    | some r => some r
    | none => stk t b y k
  | b, .cond _ x y, k => match stk t b x k with
    | some r => some r
    | none => stk t b y k
  | _, .block i x, k => stk t i x (.blk i :: k)
  | b, .loop x, k => cond (Nat.beq b t) (some (.code b x :: .lp b x :: k)) (stk t b x (.lp b x :: k))
  | _, _, _ => none

noncomputable def FnI.hd (I : FnI) (t : Nat) (fr : Fr) : Option Fr := I.T ((stk t 0 I.code []).getD []) fr

noncomputable def FnI.gd (I : FnI) (t n : Nat) (l : List (Nat × FV)) (r : List (Nat × Reg)) : Option Fr := match (stk t 0 I.code []).getD [] with
  | .code b c :: k => I.GF b c k n l r
  | k => I.T k (mkF n l r)

theorem FnI.hd_eq (I : FnI) (t n : Nat) (l : List (Nat × FV)) (r : List (Nat × Reg)) : I.hd t (mkF n l r) = I.gd t n l r := by
  unfold FnI.hd FnI.gd
  split
  · rename_i b c k h
    rw [h, FnI.GF_eq]; exact I.T_eq b c k _
  · rfl

theorem hdEq {I : FnI} {t n : Nat} {l : List (Nat × FV)} {rg : List (Nat × Reg)} {r : Option Fr} (h : I.gd t n l rg = r) : I.hd t (mkF n l rg) = r := (I.hd_eq t n l rg).trans h

def num0 : Nat → List FV → List (Nat × FV)
  | _, [] => []
  | i, v :: l => (i, v) :: num0 (i + 1) l

noncomputable def FnI.run' (I : FnI) (pk : Fr) : Option Fr :=
  cond (pk.regs.all fun p => Nat.blt p.1 I.pre) (cond (Nat.ble pk.slots.length I.fn.ntmps) (I.GF 0 I.code [] I.fn.ntmps (num0 0 pk.slots) pk.regs) (I.T [.code 0 I.code] ⟨pk.slots ++ List.replicate (I.fn.ntmps - pk.slots.length) .undef, pk.regs⟩)) none

theorem mkS_nil : ∀ (n i : Nat), mkS i n [] = List.replicate n .undef
  | 0, i => rfl
  | n + 1, i => by simp only [mkS, List.replicate_succ]; rw [mkS_nil n]

theorem mkS_num0 : ∀ (l : List FV) (i n : Nat), l.length ≤ n → mkS i n (num0 i l) = l ++ List.replicate (n - l.length) .undef
  | [], i, n, h => by simp only [num0, mkS_nil]; rfl
  | v :: l, i, 0, h => by simp at h
  | v :: l, i, n + 1, h => by
    simp only [num0, mkS, List.length_cons]
    rw [show Nat.beq i i = true from by simp]
    simp only [cond_true, List.cons_append]
    rw [mkS_num0 l (i + 1) n (by simpa using h), show n + 1 - (l.length + 1) = n - l.length by omega]

theorem FnI.run_eq (I : FnI) (pk : Fr) : I.run pk = I.run' pk := by
  unfold FnI.run FnI.run'
  cases h : Nat.ble pk.slots.length I.fn.ntmps with
  | false => rfl
  | true =>
    have hle := Nat.le_of_ble_eq_true h
    simp only [cond_true, FnI.GF_eq]
    unfold mkF
    rw [mkS_num0 _ 0 _ hle, I.T_eq]

theorem enters_of {P : Program} {f : FuncId} {fn : Func} {c : Code} (hf : P.funcs[f]? = some fn) (hb : fn.body = some c) (hn : (fn.name == "runtime.NumGoroutine") = false) : Enters P f := by
  intro args w
  have : fn.name ≠ "runtime.NumGoroutine" := by simpa using hn
  simp [callFunc, hf, hb, this]

/-! ### contracts -/
@[reducible] def Tup : List Tc → Type
  | [] => Unit
  | t :: ts => t.den × Tup ts

def undats : (ts : List Tc) → Tup ts → List FV
  | [], _ => []
  | t :: ts, x => .dat t x.1 :: undats ts x.2

def dats : (ts : List Tc) → List FV → Option (Tup ts)
  | [], [] => some ()
  | t :: ts, .dat t' x :: l => if h : t' = t then (dats ts l).map fun y => (h ▸ x, y) else none
  | _, _ => none

theorem dats_some : ∀ (ts : List Tc) (l : List FV) (x : Tup ts), dats ts l = some x → l = undats ts x
  | [], [], x, h => rfl
  | [], _ :: _, x, h => by simp [dats] at h
  | t :: ts, [], x, h => by simp [dats] at h
  | t :: ts, v :: l, x, h => by
    cases v with
    | dat t' y =>
      simp only [dats] at h
      split at h
      · rename_i e
        subst e
        cases hd : dats ts l with
        | none => rw [hd] at h; cases h
        | some z =>
          rw [hd] at h
          simp only [Option.map_some, Option.some.injEq] at h
          subst h
          simp only [undats, dats_some ts l z hd]
      · cases h
    | _ => simp [dats] at h

/-! ### frames with holes (.undef) for closed data -/
mutual
def matchV : FV → FV → Option (List FV)
  | .undef, v => match v with
    | .dat t x => some [.dat t x]
    | _ => none
  | .ptr k o, v => match v with
    | .ptr k' o' => cond (Nat.beq k k' && Nat.beq o o') (some []) none
    | _ => none
  | .slc k, v => match v with
    | .slc k' => cond (Nat.beq k k') (some []) none
    | _ => none
  | .nil0, v => match v with
    | .nil0 => some []
    | _ => none
  | .nilp, v => match v with
    | .nilp => some []
    | _ => none
  | .nilm, v => match v with
    | .nilm => some []
    | _ => none
  | .nilf, v => match v with
    | .nilf => some []
    | _ => none
  | .agg l, v => match v with
    | .agg l' => matchL l l'
    | _ => none
  | .clos f l, v => match v with
    | .clos f' l' => cond (Nat.beq f f') (matchL l l') none
    | _ => none
  | _, _ => none
def matchL : List FV → List FV → Option (List FV)
  | [], l => match l with
    | [] => some []
    | _ => none
  | p :: ps, l => match l with
    | [] => none
    | v :: l => match matchV p v with
      | some a => match matchL ps l with
        | some b => some (a ++ b)
        | none => none
      | none => none
end

mutual
def fillV : FV → List FV → FV × List FV
  | .undef, hs => match hs with
    | h :: hs => (h, hs)
    | [] => (.undef, [])
  | .agg l, hs => (.agg (fillL l hs).1, (fillL l hs).2)
  | .clos f l, hs => (.clos f (fillL l hs).1, (fillL l hs).2)
  | v, hs => (v, hs)
def fillL : List FV → List FV → List FV × List FV
  | [], hs => ([], hs)
  | p :: ps, hs => ((fillV p hs).1 :: (fillL ps (fillV p hs).2).1, (fillL ps (fillV p hs).2).2)
end

def matchR : Reg → Reg → Option (List FV)
  | .box l, r => match r with
    | .box l' => matchL l l'
    | _ => none
  | .arr t _, r => match r with
    | .arr t' xs => if t = t' then some [.dat (.slice t') xs] else none
    | _ => none
  | .frz t _, r => match r with
    | .frz t' xs => if t = t' then some [.dat (.slice t') xs] else none
    | _ => none
  | _, _ => none

def fillR : Reg → List FV → Reg × List FV
  | .box l, hs => (.box (fillL l hs).1, (fillL l hs).2)
  | .arr t xs, hs => match hs with
    | .dat (.slice t') ys :: hs => (.arr t' ys, hs)
    | _ => (.arr t xs, hs)
  | .frz t xs, hs => match hs with
    | .dat (.slice t') ys :: hs => (.frz t' ys, hs)
    | _ => (.frz t xs, hs)
  | r, hs => (r, hs)

def matchRs : List (Nat × Reg) → List (Nat × Reg) → Option (List FV)
  | [], l => match l with
    | [] => some []
    | _ => none
  | (i, p) :: ps, l => match l with
    | [] => none
    | (j, r) :: l => cond (Nat.beq i j) (match matchR p r with
      | some a => match matchRs ps l with
        | some b => some (a ++ b)
        | none => none
      | none => none) none

def fillRs : List (Nat × Reg) → List FV → List (Nat × Reg)
  | [], _ => []
  | (i, p) :: ps, hs => (i, (fillR p hs).1) :: fillRs ps (fillR p hs).2

def matchF (p fr : Fr) : Option (List FV) := match matchL p.slots fr.slots with
  | some a => match matchRs p.regs fr.regs with
    | some b => some (a ++ b)
    | none => none
  | none => none

def fillF (p : Fr) (hs : List FV) : Fr := ⟨(fillL p.slots hs).1, fillRs p.regs (fillL p.slots hs).2⟩

theorem beq_ok {a b : Nat} (h : Nat.beq a b = true) : a = b := Nat.eq_of_beq_eq_true h

mutual
theorem fillV_match : ∀ (p v : FV) (hs rest : List FV), matchV p v = some hs → fillV p (hs ++ rest) = (v, rest)
  | .undef, v, hs, rest, h => by
    cases v <;> simp only [matchV] at h <;> first | (cases h; done) | skip
    cases h; rfl
  | .ptr k o, v, hs, rest, h => by
    cases v <;> simp only [matchV] at h <;> first | (cases h; done) | skip
    rename_i k' o'
    cases hb : (Nat.beq k k' && Nat.beq o o') with
    | false => rw [hb] at h; cases h
    | true =>
      rw [hb] at h
      simp only [Bool.and_eq_true] at hb
      rw [beq_ok hb.1, beq_ok hb.2]
      cases h; rfl
  | .slc k, v, hs, rest, h => by
    cases v <;> simp only [matchV] at h <;> first | (cases h; done) | skip
    rename_i k'
    cases hb : Nat.beq k k' with
    | false => rw [hb] at h; cases h
    | true => rw [hb] at h; rw [beq_ok hb]; cases h; rfl
  | .nil0, v, hs, rest, h => by
    cases v <;> simp only [matchV] at h <;> first | (cases h; done) | skip
    cases h; rfl
  | .nilp, v, hs, rest, h => by
    cases v <;> simp only [matchV] at h <;> first | (cases h; done) | skip
    cases h; rfl
  | .nilm, v, hs, rest, h => by
    cases v <;> simp only [matchV] at h <;> first | (cases h; done) | skip
    cases h; rfl
  | .nilf, v, hs, rest, h => by
    cases v <;> simp only [matchV] at h <;> first | (cases h; done) | skip
    cases h; rfl
  | .agg l, v, hs, rest, h => by
    cases v <;> simp only [matchV] at h <;> first | (cases h; done) | skip
    simp only [fillV, fillL_match l _ hs rest h]
  | .clos f l, v, hs, rest, h => by
    cases v <;> simp only [matchV] at h <;> first | (cases h; done) | skip
    rename_i f' l'
    cases hb : Nat.beq f f' with
    | false => rw [hb] at h; cases h
    | true =>
      rw [hb] at h
      rw [beq_ok hb]
      simp only [fillV, fillL_match l _ hs rest h]
  | .skp, v, hs, rest, h => by simp [matchV] at h
  | .ub, v, hs, rest, h => by simp [matchV] at h
  | .dat t x, v, hs, rest, h => by simp [matchV] at h
  | .ep k i o, v, hs, rest, h => by simp [matchV] at h
  | .fp t x, v, hs, rest, h => by simp [matchV] at h
  | .mp k, v, hs, rest, h => by simp [matchV] at h
  | .tup l, v, hs, rest, h => by simp [matchV] at h
theorem fillL_match : ∀ (p l : List FV) (hs rest : List FV), matchL p l = some hs → fillL p (hs ++ rest) = (l, rest)
  | [], l, hs, rest, h => by
    cases l <;> simp only [matchL] at h <;> first | (cases h; done) | skip
    cases h; rfl
  | p :: ps, l, hs, rest, h => by
    cases l with
    | nil => simp [matchL] at h
    | cons v l =>
      simp only [matchL] at h
      cases hv : matchV p v with
      | none => rw [hv] at h; cases h
      | some a =>
        rw [hv] at h
        cases hl : matchL ps l with
        | none => rw [hl] at h; cases h
        | some b =>
          rw [hl] at h
          cases h
          simp only [fillL, List.append_assoc, fillV_match p v a (b ++ rest) hv, fillL_match ps l b rest hl]
end

theorem fillR_match (p r : Reg) (hs rest : List FV) (h : matchR p r = some hs) : fillR p (hs ++ rest) = (r, rest) := by
  cases p with
  | box l =>
    cases r <;> simp only [matchR] at h <;> first | (cases h; done) | skip
    simp only [fillR, fillL_match l _ hs rest h]
  | arr t xs =>
    cases r <;> simp only [matchR] at h <;> first | (cases h; done) | skip
    split at h
    · cases h; rfl
    · cases h
  | frz t xs =>
    cases r <;> simp only [matchR] at h <;> first | (cases h; done) | skip
    split at h
    · cases h; rfl
    · cases h
  | abs => simp [matchR] at h
  | dead => simp [matchR] at h

theorem fillRs_match : ∀ (p l : List (Nat × Reg)) (hs rest : List FV), matchRs p l = some hs → fillRs p (hs ++ rest) = l
  | [], l, hs, rest, h => by
    cases l <;> simp only [matchRs] at h <;> first | (cases h; done) | rfl
  | (i, p) :: ps, l, hs, rest, h => by
    cases l with
    | nil => simp [matchRs] at h
    | cons q l =>
      obtain ⟨j, r⟩ := q
      simp only [matchRs] at h
      cases hb : Nat.beq i j with
      | false => rw [hb] at h; cases h
      | true =>
        rw [hb] at h
        simp only [cond_true] at h
        cases hv : matchR p r with
        | none => rw [hv] at h; cases h
        | some a =>
          rw [hv] at h
          cases hl : matchRs ps l with
          | none => rw [hl] at h; cases h
          | some b =>
            rw [hl] at h
            cases h
            rw [beq_ok hb]
            simp only [fillRs, List.append_assoc, fillR_match p r a (b ++ rest) hv, fillRs_match ps l b rest hl]

theorem fillF_match {p fr : Fr} {hs : List FV} (h : matchF p fr = some hs) : fr = fillF p hs := by
  unfold matchF at h
  cases h1 : matchL p.slots fr.slots with
  | none => rw [h1] at h; cases h
  | some a =>
    rw [h1] at h
    cases h2 : matchRs p.regs fr.regs with
    | none => rw [h2] at h; cases h
    | some b =>
      rw [h2] at h
      cases h
      unfold fillF
      rw [fillL_match _ _ a b h1]
      have := fillRs_match _ _ b [] h2
      rw [List.append_nil] at this
      simp only [this]

/-- A contract: on frames of a form. -/
def genS (md : List Bool) (ret : Bool) (pat : Fr) (ts : List Tc) (ok : Tup ts → Bool) (out : Tup ts → Fr) : Spec where
  md := md
  ret := ret
  ok := fun pk => match matchF pat pk with
    | some hs => match dats ts hs with
      | some x => ok x
      | none => false
    | none => false
  fn := fun pk => match matchF pat pk with
    | some hs => match dats ts hs with
      | some x => some (out x)
      | none => none
    | none => none

theorem gen_of {P : Program} {G : (Nat → Prop) → Array Obj → Prop} {f : FuncId} {md : List Bool} {ret : Bool} {pat : Fr} {ts : List Tc} {ok : Tup ts → Bool} {out : Tup ts → Fr} (R : Fr → Fr → Prop)
    (h : ∀ x, ok x = true → R (fillF pat (undats ts x)) (out x)) : ∀ pk o, (genS md ret pat ts ok out).ok pk = true → (genS md ret pat ts ok out).fn pk = some o → R pk o := by
  intro pk o hok hout
  simp only [genS] at hok hout
  cases hm : matchF pat pk with
  | none => rw [hm] at hok; cases hok
  | some hs =>
    rw [hm] at hok hout
    simp only at hok hout
    cases hd : dats ts hs with
    | none => rw [hd] at hok; cases hok
    | some x =>
      rw [hd] at hok hout
      simp only [Option.some.injEq] at hok hout
      have e1 := fillF_match hm
      have e2 := dats_some ts hs x hd
      rw [e1, e2, ← hout]
      exact h x hok

theorem gen_sound {P : Program} (I : FnI) (hE : EnvOk P I.E) (hm : P.follows .mixedOrders = true) {f : FuncId} (hf : P.funcs[f]? = some I.fn) (hbody : I.fn.body = some I.code)
    (hn : (I.fn.name == "runtime.NumGoroutine") = false) {md : List Bool} {ret : Bool} {pat : Fr} {ts : List Tc} {ok : Tup ts → Bool} {out : Tup ts → Fr}
    (h : ∀ x, ok x = true → I.run (fillF pat (undats ts x)) = some (out x)) : Sound P I.E.gl f (genS md ret pat ts ok out) ∧ Enters P f :=
  ⟨I.sound hE hm hf hbody (gen_of (P := P) (G := I.E.gl) (f := f) (fun pk o => I.run pk = some o) h), enters_of hf hbody hn⟩

/-- Two contracts of one function. -/
def orS (s1 s2 : Spec) : Spec := ⟨s1.md, s1.ret, fun pk => s1.ok pk || s2.ok pk, fun pk => cond (s1.ok pk) (s1.fn pk) (s2.fn pk)⟩

theorem or_sound {P : Program} {G : (Nat → Prop) → Array Obj → Prop} {f : FuncId} {s1 s2 : Spec} (h1 : Sound P G f s1) (h2 : Sound P G f s2) : Sound P G f (orS s1 s2) := by
  intro pk out hok hout
  simp only [orS] at hok hout
  cases hb : s1.ok pk with
  | true => rw [hb] at hout; exact h1 pk out hb hout
  | false =>
    rw [hb] at hok hout
    exact h2 pk out (by simpa using hok) hout

theorem omap_cond {α β : Type} (q : Bool) (a b : Option α) (f : α → β) : (cond q a b).map f = cond q (a.map f) (b.map f) := by cases q <;> rfl
theorem fst_cond {α β : Type} (q : Bool) (a b : α × β) : (cond q a b).1 = cond q a.1 b.1 := by cases q <;> rfl
theorem snd_cond {α β : Type} (q : Bool) (a b : α × β) : (cond q a b).2 = cond q a.2 b.2 := by cases q <;> rfl

/-! ### what is known of a program -/
def ttOf : List (Nat × TI) → Nat → Option TI
  | [], _ => none
  | (i, t) :: l, k => cond (Nat.beq i k) (some t) (ttOf l k)

theorem ttOf_mem : ∀ (l : List (Nat × TI)) (k : Nat) (t : TI), ttOf l k = some t → (k, t) ∈ l
  | [], k, t, h => by cases h
  | (i, x) :: l, k, t, h => by
    simp only [ttOf] at h
    cases hb : Nat.beq i k with
    | true =>
      rw [hb] at h
      have := Nat.eq_of_beq_eq_true hb
      cases h; subst this; simp
    | false => rw [hb] at h; exact List.mem_cons_of_mem _ (ttOf_mem l k t h)

def Env.add (E : Env) (f : FuncId) (s : Spec) : Env := ⟨E.tt, fun g => cond (Nat.beq g f) (some s) (E.fs g), E.gl⟩

theorem env_nil {P : Program} {l : List (Nat × TI)} (h : (l.all fun p => okTI P p.1 p.2) = true) : EnvOk P ⟨ttOf l, fun _ => none, fun _ _ => True⟩ :=
  ⟨fun t ti ht => okTI_spec (List.all_eq_true.1 h _ (ttOf_mem l t ti ht)), (fun f s hs => by cases hs), fun _ _ _ _ _ _ => trivial⟩

theorem env_add {P : Program} {E : Env} (hE : EnvOk P E) {f : FuncId} {s : Spec} (h : Sound P E.gl f s ∧ Enters P f) : EnvOk P (E.add f s) :=
  ⟨hE.tts, fun g t ht => by
    simp only [Env.add] at ht
    cases hb : Nat.beq g f with
    | true =>
      rw [hb] at ht
      have := Nat.eq_of_beq_eq_true hb
      cases ht; subst this; exact h
    | false => rw [hb] at ht; exact hE.fss g t ht, hE.gm⟩

theorem env_or {P : Program} {E : Env} (hE : EnvOk P E) {f : FuncId} {s1 s2 : Spec} (h1 : E.fs f = some s1) (h : Sound P E.gl f s2 ∧ Enters P f) : EnvOk P (E.add f (orS s1 s2)) :=
  env_add hE ⟨or_sound (hE.fss f s1 h1).1 h.1, h.2⟩

end Go.Ev

set_option linter.unusedSimpArgs false
set_option linter.unusedVariables false
namespace Go.Ev
open Go

/-! ### numbers of loops -/
theorem dlt {i n : Nat} (h : i < n) : decide ((i : Int) < (n : Int)) = true := by simp; omega
theorem dlt_not {i n : Nat} (h : n ≤ i) : decide ((i : Int) < (n : Int)) = false := by simp; omega
theorem dle0 (i : Nat) : decide ((0 : Int) ≤ (i : Int)) = true := by simp
theorem wrap_in {x : Int} (h1 : -9223372036854775808 ≤ x) (h2 : x ≤ 9223372036854775807) : wrap .i64 x = x := by
  unfold wrap; rw [IntKind.wrap_i64]; omega
theorem wsucc {i : Nat} (h : i ≤ 4611686018427387904) : wrap .i64 ((i : Int) + 1) = ((i + 1 : Nat) : Int) := by
  rw [wrap_in (by omega) (by omega)]; simp
theorem wrap_range (x : Int) : -9223372036854775808 ≤ wrap .i64 x ∧ wrap .i64 x ≤ 9223372036854775807 := by
  unfold wrap; rw [IntKind.wrap_i64]; omega
theorem getN {α : Type} (xs : List α) (i : Nat) (d : α) (h : i < xs.length) : List.getD xs (Int.toNat (i : Int)) d = xs[i] := by
  rw [Int.toNat_natCast, List.getD_eq_getElem?_getD, List.getElem?_eq_getElem h]; rfl
theorem getI {α : Type} (xs : List α) (i : Int) (d : α) (h0 : 0 ≤ i) (h : i.toNat < xs.length) : List.getD xs (Int.toNat i) d = xs[i.toNat] := by
  rw [List.getD_eq_getElem?_getD, List.getElem?_eq_getElem h]; rfl
theorem dcons {α : Type} {xs : List α} {i : Nat} (h : i < xs.length) : xs.drop i = xs[i] :: xs.drop (i + 1) := List.drop_eq_getElem_cons h
theorem dnil {α : Type} {xs : List α} {i : Nat} (h : xs.length ≤ i) : xs.drop i = [] := List.drop_eq_nil_of_le h
theorem condT {α : Type} {q : Bool} {a b : α} (h : q = true) : cond q a b = a := by rw [h]; rfl
theorem condF {α : Type} {q : Bool} {a b : α} (h : q = false) : cond q a b = b := by rw [h]; rfl
/-- A condition of which both ways lead to one result. -/
theorem condB {α : Type} {q : Bool} {a b c : α} (h1 : q = true → a = c) (h2 : q = false → b = c) : cond q a b = c := by
  cases q
  · exact h2 rfl
  · exact h1 rfl

/-! ### that a run ends -/
def Ends (Q : Fr → Prop) (o : Option Fr) : Prop := ∃ f, o = some f ∧ Q f
theorem ends_some {Q : Fr → Prop} {f : Fr} (h : Q f) : Ends Q (some f) := ⟨f, rfl, h⟩
theorem ends_cond {Q : Fr → Prop} {c : Bool} {a b : Option Fr} (h1 : c = true → Ends Q a) (h2 : c = false → Ends Q b) : Ends Q (cond c a b) := by
  cases c
  · exact h2 rfl
  · exact h1 rfl
theorem ends_if {Q : Fr → Prop} {c : Bool} {a : Option Fr} (h : c = true) (h2 : Ends Q a) : Ends Q (cond c a none) := by rw [h]; exact h2
theorem ends_mono {Q R : Fr → Prop} {o : Option Fr} (h : Ends Q o) (hm : ∀ f, Q f → R f) : Ends R o := by
  obtain ⟨f, h1, h2⟩ := h
  exact ⟨f, h1, hm f h2⟩
theorem dT {p : Prop} [Decidable p] (h : p) : decide p = true := by simp [h]
theorem dF {p : Prop} [Decidable p] (h : ¬ p) : decide p = false := by simp [h]

end Go.Ev

set_option linter.unusedVariables false
set_option linter.unusedSimpArgs false
set_option maxRecDepth 100000
namespace Go.Ev.K
open Go Go.Ev

abbrev tPrgm : Tc := (.st (.pair (.slice (.st (.pair .str (.pair .str (.pair tI (.slice .str)))))) (.pair tI (.pair tI (.pair tI tI)))))
abbrev Prgm : Type := (List (Bytes × (Bytes × (Int × (List Bytes))))) × (Int × (Int × (Int × Int)))
abbrev tWindow : Tc := (.st (.pair tI tI))
abbrev Window : Type := Int × Int
abbrev tTimed : Tc := (.st (.pair .str (.st (.pair tI tI))))
abbrev Timed : Type := Bytes × (Int × Int)
abbrev tItem : Tc := (.st (.pair .str (.pair .str (.pair tI (.slice .str)))))
abbrev Item : Type := Bytes × (Bytes × (Int × (List Bytes)))
/-! ### the stream of numbers, and small things -/
def outside (n lo hi : Int) : Bool := decide (n < lo) || decide (n > hi)
def inR (n lo hi : Int) : Bool := decide (lo ≤ n) && decide (n ≤ hi)
def below (x n : Int) : Int := cond (decide (n < 1)) 0 (cond (decide (x.tmod n < 0)) (wrap .i64 (x.tmod n + n)) (x.tmod n))
def idxGo (x : Int) : List Int → Nat → Int
  | [], _ => -1
  | y :: l, i => cond (x == y) (i : Int) (idxGo x l (i + 1))
def indexI (l : List Int) (x : Int) : Int := idxGo x l 0
def containsI (l : List Int) (x : Int) : Bool := decide (indexI l x ≥ 0)
def mx (a b : Int) : Int := if a < b then b else a
def equalI (a b : List Int) : Bool := a == b
def atOk (k at_ : Int) : Bool := decide (0 ≤ at_) && decide (at_ + k ≤ 1099511627776)
def nextAt (at_ : Int) : Int := wrap .i64 (at_ + 1)
def rawNext (L : List Int) (at_ : Int) : Int := cond ((L.length : Int) == 0) (wrap .i64 (wrap .i64 (at_ + 1) * 7919))
  (wrap .i64 (below (L.getD (Int.toNat (Int.tmod at_ L.length)) (Tc.dflt tI)) 1073741824 + wrap .i64 (wrap .i64 (Int.tdiv at_ L.length) * wrap .i64 (7919 + Int.tmod at_ L.length))))
def next (L : List Int) (at_ n : Int) : Int := below (rawNext L at_) n
def pick (L : List Int) (at_ : Int) (l : List Int) : Int := l.getD (Int.toNat (next L at_ l.length)) (Tc.dflt tI)
def rangeAt (at_ lo hi : Int) : Int := cond (decide (hi < lo)) at_ (nextAt at_)
def rangeS (L : List Int) (at_ lo hi : Int) : Int := cond (decide (hi < lo)) lo (wrap .i64 (lo + next L at_ (wrap .i64 (wrap .i64 (hi - lo) + 1))))
def oddL (lo hi : Int) : List Int := [wrap .i64 (lo - 1), wrap .i64 (hi + 1), lo, hi, -1099511627776, 1099511627776]
def oddS (L : List Int) (at_ lo hi : Int) : Int × Int := cond (next L at_ 12 == 0) (nextAt (nextAt at_), pick L (nextAt at_) (oddL lo hi)) (rangeAt (nextAt at_) lo hi, rangeS L (nextAt at_) lo hi)
def some_ (L : List Int) (at_ : Int) (l : List Bytes) : Bytes := l.getD (Int.toNat (next L at_ l.length)) (Tc.dflt .str)
def idxBy {α : Type} (p : α → Bool) : List α → Nat → Int
  | [], _ => -1
  | x :: l, i => cond (p x) (i : Int) (idxBy p l (i + 1))
def indexB (s : Bytes) (c : Int) : Int := Lib.indexByte s c.toNat.toUInt8
def trimB (s cs : Bytes) : Bytes := Lib.trimS s cs
def trimOk (s cs : Bytes) : Bool := decide (s.length ≤ 1000000) && decide (cs.length ≤ 1000) && cs.all fun b => decide (b.toNat < 128)
def smallsB : Bytes := [97, 98, 99, 100, 101, 102, 103, 104, 105, 106, 107, 108, 109, 110, 111, 112, 113, 114, 115, 116, 117, 118, 119, 120, 121, 122]
def keyB : Bytes := [97, 98, 99, 100, 101, 102, 103, 104, 105, 106, 107, 108, 109, 110, 111, 112, 113, 114, 115, 116, 117, 118, 119, 120, 121, 122, 48, 49, 50, 51, 52, 53, 54, 55, 56, 57, 45, 95]
def isKey (s : Bytes) : Bool := !(s == []) && decide ((s.length : Int) ≤ 40) && decide (indexB smallsB ((s.getD 0 0).toNat : Int) ≥ 0) && (trimB s keyB == [])
def onlyB (s cs : Bytes) : Bool := s.all fun b => !decide (indexB cs (b.toNat : Int) < 0)
def keyR (s : Bytes) : Bool := inR (s.length : Int) 1 40 && onlyB (s.take 1) smallsB && onlyB s keyB
def notAfter (prev : Option Bytes) (p : Bytes) : Bool := match prev with
  | some q => bLess p q || p == q
  | none => false
def risingGo (key : Bytes → Bool) (prev : Option Bytes) : List Bytes → Int
  | [] => 0
  | p :: l => cond (!key p) 5 (cond (notAfter prev p) 7 (risingGo key (some p) l))
def partsF (key : Bytes → Bool) (l : List Bytes) : Int := cond ((l.length : Int) == 0) 8 (cond (decide ((l.length : Int) > 12)) 2 (risingGo key none l))
def itemsGo (key : Bytes → Bool) (pre : List Item) : List Item → Int
  | [] => 0
  | x :: l => cond (!key x.1 || !key x.2.1) 5 (cond (pre.any fun o => o.1 == x.1) 6 (cond (outside x.2.2.1 1 86400000) 1 (cond (partsF key x.2.2.2 != 0) (partsF key x.2.2.2) (itemsGo key (pre ++ [x]) l))))
def checkItems (key : Bytes → Bool) (l : List Item) : Int := cond (decide ((l.length : Int) > 60)) 2 (itemsGo key [] l)
def checkProg (key : Bytes → Bool) (p : Prgm) : Int := cond (checkItems key p.1 != 0) (checkItems key p.1)
  (cond (outside p.2.1 0 86400000 || outside p.2.2.1 0 86400000 || outside p.2.2.2.1 0 86400000 || outside p.2.2.2.2 (-1) (mx (-1) (wrap .i64 ((p.1.length : Int) - 2)))) 1 0)
def gapAt (p : Prgm) (i : Int) (x y : Item) : Int := cond (i == p.2.2.2.2) p.2.2.2.1 (cond (!(x.2.1 == y.2.1)) p.2.1 p.2.2.1)
def behindF (p : Prgm) (i : Int) : Int := gapAt p i (p.1.getD i.toNat (Tc.dflt tItem)) (p.1.getD (i + 1).toNat (Tc.dflt tItem))
def begGo (p : Prgm) : Int → Int → List Item → List Int × Int
  | _, at_, [] => ([], at_)
  | _, at_, [x] => ([at_], wrap .i64 (at_ + x.2.2.1))
  | i, at_, x :: y :: l => (at_ :: (begGo p (i + 1) (wrap .i64 (wrap .i64 (at_ + x.2.2.1) + gapAt p i x y)) (y :: l)).1, (begGo p (i + 1) (wrap .i64 (wrap .i64 (at_ + x.2.2.1) + gapAt p i x y)) (y :: l)).2)
def timGo (p : Prgm) : Int → Int → List Item → List Timed
  | _, _, [] => []
  | _, f, [x] => [(x.1, (f, wrap .i64 (f + x.2.2.1)))]
  | i, f, x :: y :: l => (x.1, (f, wrap .i64 (f + x.2.2.1))) :: timGo p (i + 1) (wrap .i64 (wrap .i64 (f + x.2.2.1) + gapAt p i x y)) (y :: l)
def ttGo (f : Int) : List Int → List Item → List Timed
  | b :: bs, x :: l => (x.1, (wrap .i64 (f + b), wrap .i64 (wrap .i64 (f + b) + x.2.2.1))) :: ttGo f bs l
  | _, _ => []
def chGo (half : Int) : Int → List Item → Int → Int
  | i, x :: y :: l, n => chGo half (i + 1) (y :: l) (cond (i != half && !(x.2.1 == y.2.1)) (wrap .i64 (n + 1)) n)
  | _, _, n => n
def isMom (n : Int) : Bool := !outside n 0 345686399999
def fromF (p : Prgm) (f : Int) : Int := cond (checkProg isKey p != 0) (checkProg isKey p) (cond (!isMom f || decide (wrap .i64 (f + (begGo p 0 0 p.1).2) > 345686400000)) 1 0)
def timetable (p : Prgm) (f : Int) : List Timed × Int := cond (fromF p f != 0) ([], fromF p f) (ttGo f (begGo p 0 0 p.1).1 p.1, 0)
def longP (p : Prgm) : Int × Int := cond (checkProg isKey p != 0) (0, checkProg isKey p) ((begGo p 0 0 p.1).2, 0)
def changes (p : Prgm) : Int × Int := cond (checkProg isKey p != 0) (0, checkProg isKey p) (chGo p.2.2.2.2 0 p.1 0, 0)
def longR (p : Prgm) : Int := match (timGo p 0 0 p.1).getLast? with
  | some t => t.2.2
  | none => 0
def beginF (p : Prgm) (f : Int) : Int := cond (!inR f 0 345686399999 || decide (wrap .i64 (f + longR p) > 345686400000)) 1 0

def t7 (L : (List Int)) (at_ : Int) : Option (Int × (List Int) × Int) := (cond (atOk 1 at_ && decide (0 < List.length [(0 : Int), (0 : Int), (100 : Int), (1000 : Int), (-1 : Int), (345686399500 : Int), (345686400000 : Int)]) && decide (List.length [(0 : Int), (0 : Int), (100 : Int), (1000 : Int), (-1 : Int), (345686399500 : Int), (345686400000 : Int)] ≤ 1000)) (some ((pick L at_ [(0 : Int), (0 : Int), (100 : Int), (1000 : Int), (-1 : Int), (345686399500 : Int), (345686400000 : Int)]), (L), (nextAt at_))) none)
def t7_ok (L : (List Int)) (at_ : Int) : Bool := (t7 L at_).isSome
def t7_0 (L : (List Int)) (at_ : Int) : Int := ((t7 L at_).getD ((Tc.dflt tI), (Tc.dflt (.slice tI)), (Tc.dflt tI))).1
def t7_1 (L : (List Int)) (at_ : Int) : (List Int) := ((t7 L at_).getD ((Tc.dflt tI), (Tc.dflt (.slice tI)), (Tc.dflt tI))).2.1
def t7_2 (L : (List Int)) (at_ : Int) : Int := ((t7 L at_).getD ((Tc.dflt tI), (Tc.dflt (.slice tI)), (Tc.dflt tI))).2.2
def t51 (a0 : Item) (k : Bytes) (pl : Bytes) (lg : Int) (ps : (List Bytes)) : Bool := (a0.1 == k)
def t51_0 (a0 : Item) (k : Bytes) (pl : Bytes) (lg : Int) (ps : (List Bytes)) : Bool := (t51 a0 k pl lg ps)
def t50 (a0 : (List Item)) (k : Bytes) (pl : Bytes) (lg : Int) (ps : (List Bytes)) : Option (Bool × Bytes × Bytes × Int × (List Bytes)) := (cond (decide (List.length a0 ≤ 1000)) (some ((decide ((idxBy (fun o => t51_0 o k pl lg ps) a0 0) ≥ (0 : Int))), (k), (pl), (lg), (ps))) none)
def t50_ok (a0 : (List Item)) (k : Bytes) (pl : Bytes) (lg : Int) (ps : (List Bytes)) : Bool := (t50 a0 k pl lg ps).isSome
def t50_0 (a0 : (List Item)) (k : Bytes) (pl : Bytes) (lg : Int) (ps : (List Bytes)) : Bool := ((t50 a0 k pl lg ps).getD ((Tc.dflt .bool), (Tc.dflt .str), (Tc.dflt .str), (Tc.dflt tI), (Tc.dflt (.slice .str)))).1
def t50_1 (a0 : (List Item)) (k : Bytes) (pl : Bytes) (lg : Int) (ps : (List Bytes)) : Bytes := ((t50 a0 k pl lg ps).getD ((Tc.dflt .bool), (Tc.dflt .str), (Tc.dflt .str), (Tc.dflt tI), (Tc.dflt (.slice .str)))).2.1
def t50_2 (a0 : (List Item)) (k : Bytes) (pl : Bytes) (lg : Int) (ps : (List Bytes)) : Bytes := ((t50 a0 k pl lg ps).getD ((Tc.dflt .bool), (Tc.dflt .str), (Tc.dflt .str), (Tc.dflt tI), (Tc.dflt (.slice .str)))).2.2.1
def t50_3 (a0 : (List Item)) (k : Bytes) (pl : Bytes) (lg : Int) (ps : (List Bytes)) : Int := ((t50 a0 k pl lg ps).getD ((Tc.dflt .bool), (Tc.dflt .str), (Tc.dflt .str), (Tc.dflt tI), (Tc.dflt (.slice .str)))).2.2.2.1
def t50_4 (a0 : (List Item)) (k : Bytes) (pl : Bytes) (lg : Int) (ps : (List Bytes)) : (List Bytes) := ((t50 a0 k pl lg ps).getD ((Tc.dflt .bool), (Tc.dflt .str), (Tc.dflt .str), (Tc.dflt tI), (Tc.dflt (.slice .str)))).2.2.2.2
def t74 (a0 : Prgm) (a1 : Item) (a2 : Item) : Int := (cond (!(a1.2.1 == a2.2.1)) a0.2.1 a0.2.2.1)
def t74_0 (a0 : Prgm) (a1 : Item) (a2 : Item) : Int := (t74 a0 a1 a2)
def t84 (a0 : Int) : Bool := (!(outside a0 (0 : Int) (345686399999 : Int)))
def t84_0 (a0 : Int) : Bool := (t84 a0)
def t90 (a0 : Item) (k : Bytes) : Bool := (a0.1 == k)
def t90_0 (a0 : Item) (k : Bytes) : Bool := (t90 a0 k)
def t55 (a0 : (List Item)) (a1 : Bytes) : Option (Int) := (cond (decide (List.length a0 ≤ 1000)) (some (idxBy (fun o => t90_0 o a1) a0 0)) none)
def t55_ok (a0 : (List Item)) (a1 : Bytes) : Bool := (t55 a0 a1).isSome
def t55_0 (a0 : (List Item)) (a1 : Bytes) : Int := ((t55 a0 a1).getD ((Tc.dflt tI)))
def t47 (a0 : Int) : Bool := (inR a0 (0 : Int) (345686399999 : Int))
def t47_0 (a0 : Int) : Bool := (t47 a0)
end Go.Ev.K

set_option linter.unusedVariables false
set_option linter.unusedSimpArgs false
set_option maxRecDepth 100000
namespace Go.Ev.K
open Go Go.Ev Go.Proofs

def tab : List (Nat × TI) := [
  (2, ⟨1, false, [dI .i64 0], some tI, [], none, 8, true, none⟩),
  (3, ⟨1, false, [dI .i64 0], some tI, [], none, 8, true, none⟩),
  (4, ⟨1, false, [dB false], some .bool, [], none, 1, true, none⟩),
  (5, ⟨1, false, [dI .u8 0], some (.int .u8), [], none, 1, true, none⟩),
  (6, ⟨1, false, [dI .u8 0], some (.int .u8), [], none, 1, true, none⟩),
  (7, ⟨4, true, [dI .i64 0, dI .i64 0, dB false, dI .u8 0], some (.st (.pair tI (.pair tI (.pair .bool (.int .u8))))), [(0, 2), (1, 3), (2, 4), (3, 6)], none, 24, false, none⟩),
  (9, ⟨1, false, [dS []], some .str, [], none, 16, true, none⟩),
  (12, ⟨1, false, [dI .u64 0], some (.int .u64), [], none, 8, true, none⟩),
  (13, ⟨2, true, [dS [], dI .u64 0], some (.st (.pair .str (.int .u64))), [(0, 9), (1, 12)], none, 24, false, none⟩),
  (17, ⟨1, false, [.nilp], none, [], none, 8, false, some 159⟩),
  (18, ⟨1, true, [.nilp], none, [(0, 17)], none, 8, false, none⟩),
  (19, ⟨1, true, [.nilp], none, [(0, 17)], none, 8, false, none⟩),
  (22, ⟨1, false, [.nil0], some (.slice tI), [], some 3, 24, false, none⟩),
  (23, ⟨1, false, [.nilp], none, [], none, 8, false, some 25⟩),
  (25, ⟨2, true, [.nil0, dI .i64 0], some (.st (.pair (.slice tI) tI)), [(0, 22), (1, 3)], none, 32, false, none⟩),
  (26, ⟨1, false, [.nil0], some (.slice tItem), [], some 63, 24, false, none⟩),
  (28, ⟨5, true, [.nil0, dI .i64 0, dI .i64 0, dI .i64 0, dI .i64 0], some tPrgm, [(0, 26), (1, 3), (2, 3), (3, 3), (4, 3)], none, 56, false, none⟩),
  (29, ⟨1, false, [.nilf], none, [], none, 8, false, none⟩),
  (30, ⟨1, false, [.nilf], none, [], none, 8, false, none⟩),
  (31, ⟨1, false, [.nil0], some (.slice tTimed), [], some 46, 24, false, none⟩),
  (32, ⟨1, false, [dI .i64 0], some tI, [], none, 8, true, none⟩),
  (40, ⟨1, false, [.nilf], none, [], none, 8, false, none⟩),
  (41, ⟨1, false, [.nilf], none, [], none, 8, false, none⟩),
  (42, ⟨1, false, [.nilf], none, [], none, 8, false, none⟩),
  (43, ⟨2, true, [dI .i64 0, dI .i64 0], some tWindow, [(0, 3), (1, 3)], none, 16, true, none⟩),
  (44, ⟨2, true, [dI .i64 0, dI .i64 0], some tWindow, [(0, 3), (1, 3)], none, 16, true, none⟩),
  (45, ⟨3, true, [dS [], dI .i64 0, dI .i64 0], some tTimed, [(0, 9), (1, 44)], none, 32, true, none⟩),
  (46, ⟨3, true, [dS [], dI .i64 0, dI .i64 0], some tTimed, [(0, 9), (1, 44)], none, 32, true, none⟩),
  (47, ⟨1, false, [.nilf], none, [], none, 8, false, none⟩),
  (48, ⟨1, false, [.nilf], none, [], none, 8, false, none⟩),
  (49, ⟨1, false, [.nil0], some (.slice .str), [], some 9, 24, false, none⟩),
  (51, ⟨1, false, [.nilf], none, [], none, 8, false, none⟩),
  (53, ⟨1, false, [.nilf], none, [], none, 8, false, none⟩),
  (54, ⟨1, false, [.nilf], none, [], none, 8, false, none⟩),
  (55, ⟨1, false, [.nilf], none, [], none, 8, false, none⟩),
  (63, ⟨4, true, [dS [], dS [], dI .i64 0, .nil0], some tItem, [(0, 9), (1, 9), (2, 3), (3, 49)], none, 64, false, none⟩),
  (74, ⟨1, false, [.nilf], none, [], none, 8, false, none⟩),
  (75, ⟨1, false, [.nilp], none, [], none, 8, false, some 63⟩),
  (83, ⟨1, false, [.nilf], none, [], none, 8, false, none⟩),
  (84, ⟨1, false, [.nilf], none, [], none, 8, false, none⟩),
  (85, ⟨1, false, [.nilf], none, [], none, 8, false, none⟩),
  (86, ⟨1, false, [.nilf], none, [], none, 8, false, none⟩),
  (87, ⟨3, true, [dI .i64 0, dI .i64 0, .nil0], some (.st (.pair tI (.pair tI (.slice .str)))), [(0, 3), (1, 3), (2, 49)], none, 40, false, none⟩),
  (88, ⟨3, true, [dI .i64 0, dI .i64 0, .nil0], some (.st (.pair tI (.pair tI (.slice .str)))), [(0, 3), (1, 3), (2, 49)], none, 40, false, none⟩),
  (89, ⟨1, false, [.nilf], none, [], none, 8, false, none⟩),
  (90, ⟨1, false, [.nilf], none, [], none, 8, false, none⟩),
  (128, ⟨1, false, [.nilp], none, [], none, 8, false, some 124⟩)]
noncomputable def En0 : Env := ⟨ttOf tab, fun _ => none, fun _ _ => True⟩
noncomputable def I83 : FnI := ⟨En0, ⟨[], [], []⟩, Tryd.f83, codeOf Tryd.f83, [.data tI], 0⟩
noncomputable def S83 : Spec := genS [true, true] false ⟨[.undef, .undef], []⟩ [tI, tI] (fun x => true) (fun x => ⟨[.dat tI (below x.1 x.2.1)], []⟩)
noncomputable def En83 : Env := En0.add 83 S83
noncomputable def I41 : FnI := ⟨En83, ⟨[], [], []⟩, Tryd.f41, codeOf Tryd.f41, [.data tI], 1⟩
noncomputable def S41 : Spec := genS [false, true] true ⟨[.ptr 0 0, .undef], [(0, .box [.undef, .undef])]⟩ [tI, (.slice tI), tI] (fun x => atOk 1 x.2.2.1) (fun x => ⟨[.dat tI (next x.2.1 x.2.2.1 x.1)], [(0, .box [.dat (.slice tI) (x.2.1), .dat tI (nextAt x.2.2.1)])]⟩)
noncomputable def En41 : Env := En83.add 41 S41
noncomputable def I29 : FnI := ⟨En41, ⟨[], [], []⟩, Tryd.f29, codeOf Tryd.f29, [.data .bool], 1⟩
noncomputable def S29 : Spec := genS [false, true] true ⟨[.ptr 0 0, .undef], [(0, .box [.undef, .undef])]⟩ [tI, (.slice tI), tI] (fun x => atOk 1 x.2.2.1) (fun x => ⟨[.dat .bool (next x.2.1 x.2.2.1 x.1 == 0)], [(0, .box [.dat (.slice tI) (x.2.1), .dat tI (nextAt x.2.2.1)])]⟩)
noncomputable def En29 : Env := En41.add 29 S29
noncomputable def I30 : FnI := ⟨En29, ⟨[], [], []⟩, Tryd.f30, codeOf Tryd.f30, [.data .str], 1⟩
noncomputable def S30 : Spec := genS [false, true] true ⟨[.ptr 0 0, .undef], [(0, .box [.undef, .undef])]⟩ [(.slice .str), (.slice tI), tI] (fun x => atOk 1 x.2.2.1 && decide (0 < List.length x.1) && decide (List.length x.1 ≤ 1000)) (fun x => ⟨[.dat .str (some_ x.2.1 x.2.2.1 x.1)], [(0, .box [.dat (.slice tI) (x.2.1), .dat tI (nextAt x.2.2.1)])]⟩)
noncomputable def En30 : Env := En29.add 30 S30
noncomputable def I35 : FnI := ⟨En30, ⟨[], [], []⟩, Tryd.f35, codeOf Tryd.f35, [.data tI], 1⟩
noncomputable def S35 : Spec := genS [false, true] true ⟨[.ptr 0 0, .undef], [(0, .box [.undef, .undef])]⟩ [(.slice tI), (.slice tI), tI] (fun x => atOk 1 x.2.2.1 && decide (0 < List.length x.1) && decide (List.length x.1 ≤ 1000)) (fun x => ⟨[.dat tI (pick x.2.1 x.2.2.1 x.1)], [(0, .box [.dat (.slice tI) (x.2.1), .dat tI (nextAt x.2.2.1)])]⟩)
noncomputable def En35 : Env := En30.add 35 S35
noncomputable def I40 : FnI := ⟨En35, ⟨[(0, [0, 4, 5, 23, 24, 25], []), (2, [0, 4, 5, 8, 23, 24, 25, 39, 40, 41], [])], [], [(20, [(0, tItem)]), (38, [(3, .str)])]⟩, Tryd.f40, codeOf Tryd.f40, [.raw], 1⟩
noncomputable def rightP (L : List Int) (at_ n : Int) : Int × List Item × Int × Int × Int × Int := Classical.epsilon fun p => (at_ ≤ p.1 ∧ p.1 ≤ at_ + 200 ∧ p.2.1.length ≤ 5 ∧ ∀ x ∈ p.2.1, x.2.2.2.length ≤ 5) ∧
  I40.run ⟨[.ptr 0 0, .dat tI n], [(0, .box [.dat (.slice tI) L, .dat tI at_])]⟩ = some ⟨[.agg [.slc 2, .dat tI p.2.2.1, .dat tI p.2.2.2.1, .dat tI p.2.2.2.2.1, .dat tI p.2.2.2.2.2]], [(0, .box [.dat (.slice tI) L, .dat tI p.1]), (2, .arr tItem p.2.1)]⟩
noncomputable def S40 : Spec := genS [false, true] true ⟨[.ptr 0 0, .undef], [(0, .box [.undef, .undef])]⟩ [tI, (.slice tI), tI] (fun x => atOk 1000 x.2.2.1 && decide (0 ≤ x.1) && decide (x.1 ≤ 5)) (fun x => ⟨[.agg [.slc 2, .dat tI ((rightP x.2.1 x.2.2.1 x.1).2.2.1), .dat tI ((rightP x.2.1 x.2.2.1 x.1).2.2.2.1), .dat tI ((rightP x.2.1 x.2.2.1 x.1).2.2.2.2.1), .dat tI ((rightP x.2.1 x.2.2.1 x.1).2.2.2.2.2)]], [(0, .box [.dat (.slice tI) (x.2.1), .dat tI ((rightP x.2.1 x.2.2.1 x.1).1)]), (2, .arr tItem ((rightP x.2.1 x.2.2.1 x.1).2.1))]⟩)
noncomputable def En40 : Env := En35.add 40 S40
noncomputable def I31 : FnI := ⟨En40, ⟨[], [], []⟩, Tryd.f31, codeOf Tryd.f31, [.data tI], 1⟩
noncomputable def S31 : Spec := genS [false, true, true] true ⟨[.ptr 0 0, .undef, .undef], [(0, .box [.undef, .undef])]⟩ [tI, tI, (.slice tI), tI] (fun x => atOk 1 x.2.2.2.1) (fun x => ⟨[.dat tI (rangeS x.2.2.1 x.2.2.2.1 x.1 x.2.1)], [(0, .box [.dat (.slice tI) (x.2.2.1), .dat tI (rangeAt x.2.2.2.1 x.1 x.2.1)])]⟩)
noncomputable def En31 : Env := En40.add 31 S31
noncomputable def I42 : FnI := ⟨En31, ⟨[], [], []⟩, Tryd.f42, codeOf Tryd.f42, [.data tI], 1⟩
noncomputable def S42 : Spec := genS [false, true, true] true ⟨[.ptr 0 0, .undef, .undef], [(0, .box [.undef, .undef])]⟩ [tI, tI, (.slice tI), tI] (fun x => atOk 8 x.2.2.2.1) (fun x => ⟨[.dat tI ((oddS x.2.2.1 x.2.2.2.1 x.1 x.2.1).2)], [(0, .box [.dat (.slice tI) (x.2.2.1), .dat tI ((oddS x.2.2.1 x.2.2.2.1 x.1 x.2.1).1)])]⟩)
noncomputable def En42 : Env := En31.add 42 S42
noncomputable def I43 : FnI := ⟨En42, ⟨[], [], []⟩, Tryd.f43, codeOf Tryd.f43, [.own .str], 0⟩
noncomputable def S43 : Spec := genS [true] false ⟨[.undef], []⟩ [(.slice .str)] (fun x => decide (List.length x.1 ≤ 1000)) (fun x => ⟨[.slc 0], [(0, .arr .str (x.1))]⟩)
noncomputable def En43 : Env := En42.add 43 S43
noncomputable def I6 : FnI := ⟨En43, ⟨[], [], []⟩, Tryd.f6, codeOf Tryd.f6, [.data tPrgm], 1⟩
noncomputable def aProg (L : List Int) (at_ n : Int) : Int × Prgm := Classical.epsilon fun p => (at_ ≤ p.1 ∧ p.1 ≤ at_ + 400 ∧ p.2.1.length ≤ 5) ∧
  I6.run ⟨[.ptr 0 0, .dat tI n], [(0, .box [.dat (.slice tI) L, .dat tI at_])]⟩ = some ⟨[.dat tPrgm p.2], [(0, .box [.dat (.slice tI) L, .dat tI p.1])]⟩
noncomputable def S6 : Spec := genS [false, true] true ⟨[.ptr 0 0, .undef], [(0, .box [.undef, .undef])]⟩ [tI, (.slice tI), tI] (fun x => atOk 2000 x.2.2.1 && x.1 == 5) (fun x => ⟨[.dat tPrgm ((aProg x.2.1 x.2.2.1 x.1).2)], [(0, .box [.dat (.slice tI) (x.2.1), .dat tI ((aProg x.2.1 x.2.2.1 x.1).1)])]⟩)
noncomputable def En6 : Env := En43.add 6 S6
noncomputable def I7 : FnI := ⟨En6, ⟨[], [], []⟩, Tryd.f7, codeOf Tryd.f7, [.data tI], 1⟩
noncomputable def S7 : Spec := genS [false] true ⟨[.ptr 0 0], [(0, .box [.undef, .undef])]⟩ [(.slice tI), tI] (fun x => t7_ok x.1 x.2.1) (fun x => ⟨[.dat tI (t7_0 x.1 x.2.1)], [(0, .box [.dat (.slice tI) (t7_1 x.1 x.2.1), .dat tI (t7_2 x.1 x.2.1)])]⟩)
noncomputable def En7 : Env := En6.add 7 S7
noncomputable def I51 : FnI := ⟨En7, ⟨[], [], []⟩, Tryd.f51, codeOf Tryd.f51, [.data .bool], 1⟩
noncomputable def S51 : Spec := genS [true] true ⟨[.undef, .ptr 0 0], [(0, .box [.undef, .undef, .undef, .undef])]⟩ [tItem, .str, .str, tI, (.slice .str)] (fun x => true) (fun x => ⟨[.dat .bool (t51_0 x.1 x.2.1 x.2.2.1 x.2.2.2.1 x.2.2.2.2.1)], [(0, .box [.dat .str x.2.1, .dat .str x.2.2.1, .dat tI x.2.2.2.1, .dat (.slice .str) x.2.2.2.2.1])]⟩)
noncomputable def En51 : Env := En7.add 51 S51
noncomputable def I88 : FnI := ⟨En51, ⟨[(0, [0, 1, 7, 8], [])], [], []⟩, Tryd.f88, codeOf Tryd.f88, [.data tI], 1⟩
noncomputable def S88 : Spec := genS [true, false] true ⟨[.undef, .clos 51 [.ptr 0 0]], [(0, .box [.undef, .undef, .undef, .undef])]⟩ [(.slice tItem), .str, .str, tI, (.slice .str)] (fun x => decide (List.length x.1 ≤ 1000)) (fun x => ⟨[.dat tI (idxBy (fun o => t51_0 o x.2.1 x.2.2.1 x.2.2.2.1 x.2.2.2.2.1) x.1 0)], [(0, .box [.dat .str (x.2.1), .dat .str (x.2.2.1), .dat tI (x.2.2.2.1), .dat (.slice .str) (x.2.2.2.2.1)])]⟩)
noncomputable def En88 : Env := En51.add 88 S88
noncomputable def I50 : FnI := ⟨En88, ⟨[], [], []⟩, Tryd.f50, codeOf Tryd.f50, [.data .bool], 1⟩
noncomputable def S50 : Spec := genS [true, false] true ⟨[.undef, .clos 51 [.ptr 0 0]], [(0, .box [.undef, .undef, .undef, .undef])]⟩ [(.slice tItem), .str, .str, tI, (.slice .str)] (fun x => t50_ok x.1 x.2.1 x.2.2.1 x.2.2.2.1 x.2.2.2.2.1) (fun x => ⟨[.dat .bool (t50_0 x.1 x.2.1 x.2.2.1 x.2.2.2.1 x.2.2.2.2.1)], [(0, .box [.dat .str (t50_1 x.1 x.2.1 x.2.2.1 x.2.2.2.1 x.2.2.2.2.1), .dat .str (t50_2 x.1 x.2.1 x.2.2.1 x.2.2.2.1 x.2.2.2.2.1), .dat tI (t50_3 x.1 x.2.1 x.2.2.1 x.2.2.2.1 x.2.2.2.2.1), .dat (.slice .str) (t50_4 x.1 x.2.1 x.2.2.1 x.2.2.2.1 x.2.2.2.2.1)])]⟩)
noncomputable def En50 : Env := En88.add 50 S50
noncomputable def S86 : Spec := genS [true, true] false ⟨[.undef, .undef], []⟩ [.str, (.int .u8)] (fun x => true) (fun x => ⟨[.dat tI (indexB x.1 x.2.1)], []⟩)
noncomputable def En86 : Env := En50.add 86 S86
noncomputable def S87 : Spec := genS [true, true] false ⟨[.undef, .undef], []⟩ [.str, .str] (fun x => trimOk x.1 x.2.1) (fun x => ⟨[.dat .str (trimB x.1 x.2.1)], []⟩)
noncomputable def En87 : Env := En86.add 87 S87
noncomputable def I49 : FnI := ⟨En87, ⟨[], [], []⟩, Tryd.f49, codeOf Tryd.f49, [.data .bool], 0⟩
noncomputable def S49 : Spec := genS [true] false ⟨[.undef], []⟩ [.str] (fun x => true) (fun x => ⟨[.dat .bool (isKey x.1)], []⟩)
noncomputable def En49 : Env := En87.add 49 S49
noncomputable def I52 : FnI := ⟨En49, ⟨[], [], []⟩, Tryd.f52, codeOf Tryd.f52, [.data .bool], 0⟩
noncomputable def S52 : Spec := genS [true, true, true] false ⟨[.undef, .undef, .undef], []⟩ [tI, tI, tI] (fun x => true) (fun x => ⟨[.dat .bool (outside x.1 x.2.1 x.2.2.1)], []⟩)
noncomputable def En52 : Env := En49.add 52 S52
noncomputable def I53 : FnI := ⟨En52, ⟨[(0, [0, 11, 12, 13], [])], [], []⟩, Tryd.f53, codeOf Tryd.f53, [.data tI], 0⟩
noncomputable def S53 : Spec := genS [true] false ⟨[.undef], []⟩ [(.slice .str)] (fun x => true) (fun x => ⟨[.dat tI (partsF isKey x.1)], []⟩)
noncomputable def En53 : Env := En52.add 53 S53
noncomputable def I16 : FnI := ⟨En53, ⟨[(0, [0, 9, 10, 11], [])], [], []⟩, Tryd.f16, codeOf Tryd.f16, [.data tI], 0⟩
noncomputable def S16 : Spec := genS [true] false ⟨[.undef], []⟩ [(.slice tItem)] (fun x => true) (fun x => ⟨[.dat tI (checkItems isKey x.1)], []⟩)
noncomputable def En16 : Env := En53.add 16 S16
noncomputable def I18 : FnI := ⟨En16, ⟨[], [], []⟩, Tryd.f18, codeOf Tryd.f18, [.data tI], 0⟩
noncomputable def S18 : Spec := genS [true] false ⟨[.undef], []⟩ [tPrgm] (fun x => true) (fun x => ⟨[.dat tI (checkProg isKey x.1)], []⟩)
noncomputable def En18 : Env := En16.add 18 S18
noncomputable def I74 : FnI := ⟨En18, ⟨[], [], []⟩, Tryd.f74, codeOf Tryd.f74, [.data tI], 0⟩
noncomputable def S74 : Spec := genS [true, true, true] false ⟨[.undef, .undef, .undef], []⟩ [tPrgm, tItem, tItem] (fun x => true) (fun x => ⟨[.dat tI (t74_0 x.1 x.2.1 x.2.2.1)], []⟩)
noncomputable def En74 : Env := En18.add 74 S74
noncomputable def I85 : FnI := ⟨En74, ⟨[], [], []⟩, Tryd.f85, codeOf Tryd.f85, [.data tI], 0⟩
noncomputable def S85 : Spec := genS [true, true] false ⟨[.undef, .undef], []⟩ [tPrgm, tI] (fun x => decide (0 ≤ x.2.1) && decide (x.2.1 + 1 < (List.length x.1.1 : Int)) && decide (List.length x.1.1 ≤ 1000)) (fun x => ⟨[.dat tI (behindF x.1 x.2.1)], []⟩)
noncomputable def En85 : Env := En74.add 85 S85
noncomputable def I45 : FnI := ⟨En85, ⟨[(0, [1, 4, 5, 9, 10, 11], [(4, tI)])], [], []⟩, Tryd.f45, codeOf Tryd.f45, [.own tI, .data tI], 0⟩
noncomputable def S45 : Spec := genS [true] false ⟨[.undef], []⟩ [tPrgm] (fun x => decide (List.length x.1.1 ≤ 1000)) (fun x => ⟨[.slc 0, .dat tI ((begGo x.1 0 0 x.1.1).2)], [(0, .arr tI ((begGo x.1 0 0 x.1.1).1))]⟩)
noncomputable def En45 : Env := En85.add 45 S45
noncomputable def I84 : FnI := ⟨En45, ⟨[], [], []⟩, Tryd.f84, codeOf Tryd.f84, [.data .bool], 0⟩
noncomputable def S84 : Spec := genS [true] false ⟨[.undef], []⟩ [tI] (fun x => true) (fun x => ⟨[.dat .bool (t84_0 x.1)], []⟩)
noncomputable def En84 : Env := En45.add 84 S84
noncomputable def I44 : FnI := ⟨En84, ⟨[], [], []⟩, Tryd.f44, codeOf Tryd.f44, [.data tI], 0⟩
noncomputable def S44 : Spec := genS [true, true] false ⟨[.undef, .undef], []⟩ [tPrgm, tI] (fun x => true) (fun x => ⟨[.dat tI (fromF x.1 x.2.1)], []⟩)
noncomputable def En44 : Env := En84.add 44 S44
noncomputable def I8 : FnI := ⟨En44, ⟨[(0, [1, 7, 9, 24, 25, 26], [(9, tTimed)])], [], []⟩, Tryd.f8, codeOf Tryd.f8, [.own tTimed, .data tI], 0⟩
noncomputable def S8 : Spec := genS [true, true] false ⟨[.undef, .undef], []⟩ [tPrgm, tI] (fun x => true) (fun x => ⟨[.slc 0, .dat tI ((timetable x.1 x.2.1).2)], [(0, .arr tTimed ((timetable x.1 x.2.1).1))]⟩)
noncomputable def En8 : Env := En44.add 8 S8
noncomputable def I9 : FnI := ⟨En8, ⟨[], [], []⟩, Tryd.f9, codeOf Tryd.f9, [.data tI, .data tI], 0⟩
noncomputable def S9 : Spec := genS [true] false ⟨[.undef], []⟩ [tPrgm] (fun x => true) (fun x => ⟨[.dat tI ((longP x.1).1), .dat tI ((longP x.1).2)], []⟩)
noncomputable def En9 : Env := En8.add 9 S9
noncomputable def I10 : FnI := ⟨En9, ⟨[(0, [1, 5, 6], [])], [], []⟩, Tryd.f10, codeOf Tryd.f10, [.data tI, .data tI], 0⟩
noncomputable def S10 : Spec := genS [true] false ⟨[.undef], []⟩ [tPrgm] (fun x => true) (fun x => ⟨[.dat tI ((changes x.1).1), .dat tI ((changes x.1).2)], []⟩)
noncomputable def En10 : Env := En9.add 10 S10
noncomputable def I46 : FnI := ⟨En10, ⟨[], [], []⟩, Tryd.f46, codeOf Tryd.f46, [.data .bool], 0⟩
noncomputable def S46 : Spec := genS [true, true, true] false ⟨[.undef, .undef, .undef], []⟩ [tI, tI, tI] (fun x => true) (fun x => ⟨[.dat .bool (inR x.1 x.2.1 x.2.2.1)], []⟩)
noncomputable def En46 : Env := En10.add 46 S46
noncomputable def I89 : FnI := ⟨En46, ⟨[(0, [0, 1, 7, 8], [])], [], []⟩, Tryd.f89, codeOf Tryd.f89, [.data .bool], 0⟩
noncomputable def S89 : Spec := genS [true, true] false ⟨[.undef, .undef], []⟩ [.str, .str] (fun x => decide (List.length x.1 ≤ 1000000)) (fun x => ⟨[.dat .bool (onlyB x.1 x.2.1)], []⟩)
noncomputable def En89 : Env := En46.add 89 S89
noncomputable def I54 : FnI := ⟨En89, ⟨[], [], []⟩, Tryd.f54, codeOf Tryd.f54, [.data .bool], 0⟩
noncomputable def S54 : Spec := genS [true] false ⟨[.undef], []⟩ [.str] (fun x => true) (fun x => ⟨[.dat .bool (keyR x.1)], []⟩)
noncomputable def En54 : Env := En89.add 54 S54
noncomputable def I90 : FnI := ⟨En54, ⟨[], [], []⟩, Tryd.f90, codeOf Tryd.f90, [.data .bool], 1⟩
noncomputable def S90 : Spec := genS [true] true ⟨[.undef, .ptr 0 0], [(0, .box [.undef])]⟩ [tItem, .str] (fun x => true) (fun x => ⟨[.dat .bool (t90_0 x.1 x.2.1)], [(0, .box [.dat .str x.2.1])]⟩)
noncomputable def En90 : Env := En54.add 90 S90
noncomputable def I88a : FnI := ⟨En90, ⟨[(0, [0, 1, 7, 8], [])], [], []⟩, Tryd.f88, codeOf Tryd.f88, [.data tI], 1⟩
noncomputable def S88a : Spec := genS [true, false] true ⟨[.undef, .clos 90 [.ptr 0 0]], [(0, .box [.undef])]⟩ [(.slice tItem), .str] (fun x => decide (List.length x.1 ≤ 1000)) (fun x => ⟨[.dat tI (idxBy (fun o => t90_0 o x.2.1) x.1 0)], [(0, .box [.dat .str (x.2.1)])]⟩)
noncomputable def SS88a : Spec := orS S88 S88a
noncomputable def En88a : Env := En90.add 88 SS88a
noncomputable def I55 : FnI := ⟨En88a, ⟨[], [], []⟩, Tryd.f55, codeOf Tryd.f55, [.data tI], 0⟩
noncomputable def S55 : Spec := genS [true, true] false ⟨[.undef, .undef], []⟩ [(.slice tItem), .str] (fun x => t55_ok x.1 x.2.1) (fun x => ⟨[.dat tI (t55_0 x.1 x.2.1)], []⟩)
noncomputable def En55 : Env := En88a.add 55 S55
noncomputable def I56 : FnI := ⟨En55, ⟨[(0, [0, 5, 6, 7], [])], [], []⟩, Tryd.f56, codeOf Tryd.f56, [.data tI], 0⟩
noncomputable def S56 : Spec := genS [true] false ⟨[.undef], []⟩ [(.slice .str)] (fun x => decide (List.length x.1 ≤ 1000)) (fun x => ⟨[.dat tI (risingGo keyR none x.1)], []⟩)
noncomputable def En56 : Env := En55.add 56 S56
noncomputable def I17 : FnI := ⟨En56, ⟨[(0, [0, 9, 10, 11], [])], [], []⟩, Tryd.f17, codeOf Tryd.f17, [.data tI], 0⟩
noncomputable def S17 : Spec := genS [true] false ⟨[.undef], []⟩ [(.slice tItem)] (fun x => true) (fun x => ⟨[.dat tI (checkItems keyR x.1)], []⟩)
noncomputable def En17 : Env := En56.add 17 S17
noncomputable def I11 : FnI := ⟨En17, ⟨[], [], []⟩, Tryd.f11, codeOf Tryd.f11, [.data tI], 0⟩
noncomputable def S11 : Spec := genS [true] false ⟨[.undef], []⟩ [tPrgm] (fun x => true) (fun x => ⟨[.dat tI (checkProg keyR x.1)], []⟩)
noncomputable def En11 : Env := En17.add 11 S11
noncomputable def I48 : FnI := ⟨En11, ⟨[], [], []⟩, Tryd.f48, codeOf Tryd.f48, [.data tI], 0⟩
noncomputable def S48 : Spec := genS [true, true] false ⟨[.undef, .undef], []⟩ [tPrgm, tI] (fun x => decide (0 ≤ x.2.1) && decide (x.2.1 + 1 < (List.length x.1.1 : Int)) && decide (List.length x.1.1 ≤ 1000)) (fun x => ⟨[.dat tI (behindF x.1 x.2.1)], []⟩)
noncomputable def En48 : Env := En11.add 48 S48
noncomputable def I15 : FnI := ⟨En48, ⟨[(0, [1, 2, 5, 9, 10, 11], [(5, tTimed)])], [], []⟩, Tryd.f15, codeOf Tryd.f15, [.own tTimed], 0⟩
noncomputable def S15 : Spec := genS [true, true] false ⟨[.undef, .undef], []⟩ [tPrgm, tI] (fun x => decide (List.length x.1.1 ≤ 1000)) (fun x => ⟨[.slc 0], [(0, .arr tTimed (timGo x.1 0 x.2.1 x.1.1))]⟩)
noncomputable def En15 : Env := En48.add 15 S15
noncomputable def I13 : FnI := ⟨En15, ⟨[], [], []⟩, Tryd.f13, codeOf Tryd.f13, [.data tI], 0⟩
noncomputable def S13 : Spec := genS [true] false ⟨[.undef], []⟩ [tPrgm] (fun x => decide (List.length x.1.1 ≤ 1000)) (fun x => ⟨[.dat tI (longR x.1)], []⟩)
noncomputable def En13 : Env := En15.add 13 S13
noncomputable def I47 : FnI := ⟨En13, ⟨[], [], []⟩, Tryd.f47, codeOf Tryd.f47, [.data .bool], 0⟩
noncomputable def S47 : Spec := genS [true] false ⟨[.undef], []⟩ [tI] (fun x => true) (fun x => ⟨[.dat .bool (t47_0 x.1)], []⟩)
noncomputable def En47 : Env := En13.add 47 S47
noncomputable def I12 : FnI := ⟨En47, ⟨[], [], []⟩, Tryd.f12, codeOf Tryd.f12, [.data tI], 0⟩
noncomputable def S12 : Spec := genS [true, true] false ⟨[.undef, .undef], []⟩ [tPrgm, tI] (fun x => decide (List.length x.1.1 ≤ 1000)) (fun x => ⟨[.dat tI (beginF x.1 x.2.1)], []⟩)
noncomputable def En12 : Env := En47.add 12 S12
noncomputable def I14 : FnI := ⟨En12, ⟨[(0, [1, 3, 4], [])], [], []⟩, Tryd.f14, codeOf Tryd.f14, [.data tI], 0⟩
noncomputable def S14 : Spec := genS [true] false ⟨[.undef], []⟩ [tPrgm] (fun x => decide (List.length x.1.1 ≤ 1000)) (fun x => ⟨[.dat tI (chGo x.1.2.2.2.2 0 x.1.1 0)], []⟩)
noncomputable def En14 : Env := En12.add 14 S14
noncomputable def I19 : FnI := ⟨En14, ⟨[(0, [0, 1, 12, 13], [])], [], []⟩, Tryd.f19, codeOf Tryd.f19, [.data .bool], 0⟩
noncomputable def S19 : Spec := genS [true, true] false ⟨[.undef, .undef], []⟩ [(.slice tTimed), (.slice tTimed)] (fun x => decide (List.length x.1 ≤ 1000)) (fun x => ⟨[.dat .bool (x.1 == x.2.1)], []⟩)
noncomputable def En19 : Env := En14.add 19 S19
noncomputable def I20 : FnI := ⟨En19, ⟨[], [], []⟩, Tryd.f20, codeOf Tryd.f20, [.data .bool], 0⟩
noncomputable def S20 : Spec := genS [] false ⟨[], []⟩ [] (fun x => true) (fun x => ⟨[.dat .bool true], []⟩)
noncomputable def En20 : Env := En19.add 20 S20
noncomputable def I3 : FnI := ⟨En20, ⟨[], [], []⟩, Tryd.f3, codeOf Tryd.f3, [.data .bool], 0⟩
noncomputable def S3 : Spec := genS [true] false ⟨[.undef], []⟩ [(.slice tI)] (fun x => true) (fun x => ⟨[.dat .bool true], []⟩)
end Go.Ev.K

set_option linter.unusedVariables false
set_option linter.unusedSimpArgs false
set_option maxRecDepth 100000
namespace Go.Ev.K
open Go Go.Ev Go.Proofs
theorem f83_run (a0 : Int) (a1 : Int) : I83.run ⟨[.dat tI a0, .dat tI a1], []⟩ = (cond (decide (a1 < (1 : Int))) (some ⟨[.dat tI (0 : Int)], []⟩) (cond (a1 == 0) none (cond (decide ((Int.tmod a0 a1) < (0 : Int))) (some ⟨[.dat tI (wrap .i64 ((Int.tmod a0 a1) + a1))], []⟩) (some ⟨[.dat tI (Int.tmod a0 a1)], []⟩)))) := (I83.run_eq _).trans (by kernel_rfl)
theorem f41_run (a0 : Int) (L : (List Int)) (at_ : Int) : I41.run ⟨[.ptr 0 0, .dat tI a0], [(0, .box [.dat (.slice tI) L, .dat tI at_])]⟩ = (cond (((List.length L : Nat) : Int) == (0 : Int)) (some ⟨[.dat tI (below (wrap .i64 ((wrap .i64 (at_ + (1 : Int))) * (7919 : Int))) a0)], [(0, .box [.dat (.slice tI) L, .dat tI (wrap .i64 (at_ + (1 : Int)))])]⟩) (cond (((List.length L : Nat) : Int) == 0) none (cond (((List.length L : Nat) : Int) == 0) none (cond (decide ((0 : Int) ≤ (Int.tmod (wrap .i64 ((wrap .i64 (at_ + (1 : Int))) - (1 : Int))) ((List.length L : Nat) : Int)))) (cond (decide ((Int.tmod (wrap .i64 ((wrap .i64 (at_ + (1 : Int))) - (1 : Int))) ((List.length L : Nat) : Int)) < ((List.length L : Nat) : Int))) (some ⟨[.dat tI (below (wrap .i64 ((below (List.getD L (Int.toNat (Int.tmod (wrap .i64 ((wrap .i64 (at_ + (1 : Int))) - (1 : Int))) ((List.length L : Nat) : Int))) (Tc.dflt tI)) (1073741824 : Int)) + (wrap .i64 ((wrap .i64 (Int.tdiv (wrap .i64 ((wrap .i64 (at_ + (1 : Int))) - (1 : Int))) ((List.length L : Nat) : Int))) * (wrap .i64 ((7919 : Int) + (Int.tmod (wrap .i64 ((wrap .i64 (at_ + (1 : Int))) - (1 : Int))) ((List.length L : Nat) : Int)))))))) a0)], [(0, .box [.dat (.slice tI) L, .dat tI (wrap .i64 (at_ + (1 : Int)))])]⟩) none) none)))) := (I41.run_eq _).trans (by kernel_rfl)
theorem f29_run (a0 : Int) (L : (List Int)) (at_ : Int) : I29.run ⟨[.ptr 0 0, .dat tI a0], [(0, .box [.dat (.slice tI) L, .dat tI at_])]⟩ = (cond (atOk 1 at_) (some ⟨[.dat .bool ((next L at_ a0) == (0 : Int))], [(0, .box [.dat (.slice tI) (L), .dat tI (nextAt at_)])]⟩) none) := (I29.run_eq _).trans (by kernel_rfl)
theorem f30_run (a0 : (List Bytes)) (L : (List Int)) (at_ : Int) : I30.run ⟨[.ptr 0 0, .dat (.slice .str) a0], [(0, .box [.dat (.slice tI) L, .dat tI at_])]⟩ = (cond (atOk 1 at_) (cond (decide ((0 : Int) ≤ (next L at_ ((List.length a0 : Nat) : Int)))) (cond (decide ((next L at_ ((List.length a0 : Nat) : Int)) < ((List.length a0 : Nat) : Int))) (some ⟨[.dat .str (List.getD a0 (Int.toNat (next L at_ ((List.length a0 : Nat) : Int))) (Tc.dflt .str))], [(0, .box [.dat (.slice tI) (L), .dat tI (nextAt at_)])]⟩) none) none) none) := (I30.run_eq _).trans (by kernel_rfl)
theorem f35_run (a0 : (List Int)) (L : (List Int)) (at_ : Int) : I35.run ⟨[.ptr 0 0, .dat (.slice tI) a0], [(0, .box [.dat (.slice tI) L, .dat tI at_])]⟩ = (cond (atOk 1 at_) (cond (decide ((0 : Int) ≤ (next L at_ ((List.length a0 : Nat) : Int)))) (cond (decide ((next L at_ ((List.length a0 : Nat) : Int)) < ((List.length a0 : Nat) : Int))) (some ⟨[.dat tI (List.getD a0 (Int.toNat (next L at_ ((List.length a0 : Nat) : Int))) (Tc.dflt tI))], [(0, .box [.dat (.slice tI) (L), .dat tI (nextAt at_)])]⟩) none) none) none) := (I35.run_eq _).trans (by kernel_rfl)
noncomputable def f40h0 (x0 : (List Bytes)) (x1 : Int) (x2 : Int) (x3 : (List Int)) (x4 : Int) (x5 : Int) (x6 : Int) (x7 : Int) (x8 : Int) (x9 : Int) (x10 : Int) (x11 : Int) (x12 : Int) (x13 : (List Item)) : Option Fr := I40.hd 0 (mkF 83 [(0, .ptr 0 0), (4, .ptr 501 0), (5, .ptr 502 0), (23, .dat (.slice .str) x0), (24, .dat tI x1), (25, .dat tI x2)] [(0, .box [.dat (.slice tI) x3, .dat tI x4]), (501, .box [.nil0, .dat tI x5, .dat tI x6, .dat tI x7, .dat tI x8]), (502, .box [.slc 503, .dat tI x9, .dat tI x10, .dat tI x11, .dat tI x12]), (503, .arr tItem x13)])
noncomputable def f40h2 (x0 : (List Bytes)) (x1 : Int) (x2 : Int) (x3 : Int) (x4 : Int) (x5 : (List Int)) (x6 : Int) (x7 : Int) (x8 : Int) (x9 : Int) (x10 : Int) (x11 : Int) (x12 : Int) (x13 : Int) (x14 : Int) (x15 : Bytes) (x16 : Bytes) (x17 : Int) (x18 : (List Bytes)) (x19 : (List Item)) (x20 : (List Bytes)) : Option Fr := I40.hd 2 (mkF 83 [(0, .ptr 0 0), (4, .ptr 501 0), (5, .ptr 502 0), (8, .ptr 503 0), (23, .dat (.slice .str) x0), (24, .dat tI x1), (25, .dat tI x2), (39, .slc 504), (40, .dat tI x3), (41, .dat tI x4)] [(0, .box [.dat (.slice tI) x5, .dat tI x6]), (501, .box [.nil0, .dat tI x7, .dat tI x8, .dat tI x9, .dat tI x10]), (502, .box [.slc 505, .dat tI x11, .dat tI x12, .dat tI x13, .dat tI x14]), (503, .box [.dat .str x15, .dat .str x16, .dat tI x17, .slc 506]), (504, .arr .str x18), (505, .arr tItem x19), (506, .arr .str x20)])
theorem f40_run (a0 : Int) (L : (List Int)) (at_ : Int) : I40.run ⟨[.ptr 0 0, .dat tI a0], [(0, .box [.dat (.slice tI) L, .dat tI at_])]⟩ = (cond (atOk 1 at_ && decide (0 < List.length [(0 : Int), (30 : Int), (50 : Int)]) && decide (List.length [(0 : Int), (30 : Int), (50 : Int)] ≤ 1000)) (cond (atOk 1 (nextAt at_) && decide (0 < List.length [(0 : Int), (10 : Int), (30 : Int)]) && decide (List.length [(0 : Int), (10 : Int), (30 : Int)] ≤ 1000)) (cond (atOk 1 (nextAt (nextAt at_)) && decide (0 < List.length [(0 : Int), (100 : Int)]) && decide (List.length [(0 : Int), (100 : Int)] ≤ 1000)) (cond (decide ((0 : Int) ≤ (0 : Int))) (cond (decide ((0 : Int) ≤ a0)) (cond (decide (a0 ≤ ((List.length ([[99], [97], [100], [98], [101]] : List Bytes) : Nat) : Int))) (f40h0 (List.drop (Int.toNat (0 : Int)) (List.take (Int.toNat a0) ([[99], [97], [100], [98], [101]] : List Bytes))) ((List.length (List.drop (Int.toNat (0 : Int)) (List.take (Int.toNat a0) ([[99], [97], [100], [98], [101]] : List Bytes))) : Nat) : Int) (0 : Int) (((L))) (nextAt (nextAt (nextAt at_))) (0 : Int) (0 : Int) (0 : Int) (0 : Int) (pick L at_ [(0 : Int), (30 : Int), (50 : Int)]) (pick (L) (nextAt at_) [(0 : Int), (10 : Int), (30 : Int)]) (pick ((L)) (nextAt (nextAt at_)) [(0 : Int), (100 : Int)]) (-1 : Int) ([] : List Item)) none) none) none) none) none) none) := (I40.run_eq _).trans (by kernel_rfl)
theorem f40h0_eq (x0 : (List Bytes)) (x1 : Int) (x2 : Int) (x3 : (List Int)) (x4 : Int) (x5 : Int) (x6 : Int) (x7 : Int) (x8 : Int) (x9 : Int) (x10 : Int) (x11 : Int) (x12 : Int) (x13 : (List Item)) : f40h0 x0 x1 x2 x3 x4 x5 x6 x7 x8 x9 x10 x11 x12 x13 = (cond (decide (x2 < x1)) (cond (decide ((0 : Int) ≤ x2)) (cond (decide (x2 < ((List.length x0 : Nat) : Int))) (cond (atOk 1 x4) (cond (next x3 x4 (6 : Int) == 0) (f40h0 x0 x1 (wrap .i64 (x2 + (1 : Int))) (x3) (nextAt x4) x5 x6 x7 x8 x9 x10 x11 x12 x13) (cond (atOk 1 (nextAt x4) && decide (0 < List.length ([[114, 111, 119, 115], [114, 111, 119, 115], [99, 105, 114, 99, 108, 101]] : List Bytes)) && decide (List.length ([[114, 111, 119, 115], [114, 111, 119, 115], [99, 105, 114, 99, 108, 101]] : List Bytes) ≤ 1000)) (cond (atOk 1 (nextAt (nextAt x4)) && decide (0 < List.length [(50 : Int), (100 : Int), (100 : Int), (200 : Int)]) && decide (List.length [(50 : Int), (100 : Int), (100 : Int), (200 : Int)] ≤ 1000)) (f40h2 x0 x1 x2 ((List.length ([[97, 108, 116, 111], [98, 97, 115, 115], [115, 111, 108, 105]] : List Bytes) : Nat) : Int) (0 : Int) (((x3))) (nextAt (nextAt (nextAt x4))) x5 x6 x7 x8 x9 x10 x11 x12 (List.getD x0 (Int.toNat x2) (Tc.dflt .str)) (some_ (x3) (nextAt x4) ([[114, 111, 119, 115], [114, 111, 119, 115], [99, 105, 114, 99, 108, 101]] : List Bytes)) (pick ((x3)) (nextAt (nextAt x4)) [(50 : Int), (100 : Int), (100 : Int), (200 : Int)]) ([[97, 108, 116, 111], [98, 97, 115, 115], [115, 111, 108, 105]] : List Bytes) x13 ([] : List Bytes)) none) none)) none) none) none) (cond (decide (((List.length x13 : Nat) : Int) > (1 : Int))) (cond (atOk 1 x4) (cond (next x3 x4 (2 : Int) == 0) (cond (atOk 1 (nextAt x4)) (some ⟨[.agg [.slc 2, .dat tI x9, .dat tI x10, .dat tI x11, .dat tI (next (x3) (nextAt x4) (wrap .i64 (((List.length x13 : Nat) : Int) - (1 : Int))))]], [(0, .box [.dat (.slice tI) ((x3)), .dat tI (nextAt (nextAt x4))]), (2, .arr tItem x13)]⟩) none) (some ⟨[.agg [.slc 2, .dat tI x9, .dat tI x10, .dat tI x11, .dat tI x12]], [(0, .box [.dat (.slice tI) (x3), .dat tI (nextAt x4)]), (2, .arr tItem x13)]⟩)) none) (some ⟨[.agg [.slc 2, .dat tI x9, .dat tI x10, .dat tI x11, .dat tI x12]], [(0, .box [.dat (.slice tI) x3, .dat tI x4]), (2, .arr tItem x13)]⟩))) := hdEq (by kernel_rfl)
theorem f40h2_eq (x0 : (List Bytes)) (x1 : Int) (x2 : Int) (x3 : Int) (x4 : Int) (x5 : (List Int)) (x6 : Int) (x7 : Int) (x8 : Int) (x9 : Int) (x10 : Int) (x11 : Int) (x12 : Int) (x13 : Int) (x14 : Int) (x15 : Bytes) (x16 : Bytes) (x17 : Int) (x18 : (List Bytes)) (x19 : (List Item)) (x20 : (List Bytes)) : f40h2 x0 x1 x2 x3 x4 x5 x6 x7 x8 x9 x10 x11 x12 x13 x14 x15 x16 x17 x18 x19 x20 = (cond (decide (x4 < x3)) (cond (decide ((0 : Int) ≤ x4)) (cond (decide (x4 < ((List.length x18 : Nat) : Int))) (cond (decide ((Int.toNat x4) < List.length x18)) (cond (atOk 1 x6) (cond (next x5 x6 (2 : Int) == 0) (cond (decide ((List.length x20 + List.length ([(List.getD x18 (Int.toNat x4) (Tc.dflt .str))] : List Bytes)) * 16 ≤ 140737488355328)) (f40h2 x0 x1 x2 x3 (wrap .i64 (x4 + (1 : Int))) (x5) (nextAt x6) x7 x8 x9 x10 x11 x12 x13 x14 x15 x16 x17 x18 x19 (x20 ++ ([(List.getD x18 (Int.toNat x4) (Tc.dflt .str))] : List Bytes))) none) (f40h2 x0 x1 x2 x3 (wrap .i64 (x4 + (1 : Int))) (x5) (nextAt x6) x7 x8 x9 x10 x11 x12 x13 x14 x15 x16 x17 x18 x19 x20)) none) none) none) none) (cond (((List.length x20 : Nat) : Int) == (0 : Int)) (cond (decide ((List.length x19 + List.length ([(x15, (x16, (x17, ([[97, 108, 116, 111]] : List Bytes))))] : List Item)) * 64 ≤ 140737488355328)) (f40h0 x0 x1 (wrap .i64 (x2 + (1 : Int))) x5 x6 x7 x8 x9 x10 x11 x12 x13 x14 (x19 ++ ([(x15, (x16, (x17, ([[97, 108, 116, 111]] : List Bytes))))] : List Item))) none) (cond (decide ((List.length x19 + List.length ([(x15, (x16, (x17, x20)))] : List Item)) * 64 ≤ 140737488355328)) (f40h0 x0 x1 (wrap .i64 (x2 + (1 : Int))) x5 x6 x7 x8 x9 x10 x11 x12 x13 x14 (x19 ++ ([(x15, (x16, (x17, x20)))] : List Item))) none))) := hdEq (by kernel_rfl)
theorem f31_run (a0 : Int) (a1 : Int) (L : (List Int)) (at_ : Int) : I31.run ⟨[.ptr 0 0, .dat tI a0, .dat tI a1], [(0, .box [.dat (.slice tI) L, .dat tI at_])]⟩ = (cond (decide (a1 < a0)) (some ⟨[.dat tI a0], [(0, .box [.dat (.slice tI) L, .dat tI at_])]⟩) (cond (atOk 1 at_) (some ⟨[.dat tI (wrap .i64 (a0 + (next L at_ (wrap .i64 ((wrap .i64 (a1 - a0)) + (1 : Int))))))], [(0, .box [.dat (.slice tI) (L), .dat tI (nextAt at_)])]⟩) none)) := (I31.run_eq _).trans (by kernel_rfl)
theorem f42_run (a0 : Int) (a1 : Int) (L : (List Int)) (at_ : Int) : I42.run ⟨[.ptr 0 0, .dat tI a0, .dat tI a1], [(0, .box [.dat (.slice tI) L, .dat tI at_])]⟩ = (cond (atOk 1 at_) (cond (next L at_ (12 : Int) == 0) (cond (atOk 1 (nextAt at_) && decide (0 < List.length [(wrap .i64 (a0 - (1 : Int))), (wrap .i64 (a1 + (1 : Int))), a0, a1, (-1099511627776 : Int), (1099511627776 : Int)]) && decide (List.length [(wrap .i64 (a0 - (1 : Int))), (wrap .i64 (a1 + (1 : Int))), a0, a1, (-1099511627776 : Int), (1099511627776 : Int)] ≤ 1000)) (some ⟨[.dat tI (pick (L) (nextAt at_) [(wrap .i64 (a0 - (1 : Int))), (wrap .i64 (a1 + (1 : Int))), a0, a1, (-1099511627776 : Int), (1099511627776 : Int)])], [(0, .box [.dat (.slice tI) ((L)), .dat tI (nextAt (nextAt at_))])]⟩) none) (cond (atOk 1 (nextAt at_)) (some ⟨[.dat tI (rangeS (L) (nextAt at_) a0 a1)], [(0, .box [.dat (.slice tI) ((L)), .dat tI (rangeAt (nextAt at_) a0 a1)])]⟩) none)) none) := (I42.run_eq _).trans (by kernel_rfl)
theorem f43_run (a0 : (List Bytes)) : I43.run ⟨[.dat (.slice .str) a0], []⟩ = (cond (List.isEmpty a0) (both (some ⟨[.slc 0], [(0, .arr .str ([] : List Bytes))]⟩) (cond (decide ((List.length ([] : List Bytes) + List.length a0) * 16 ≤ 140737488355328)) (some ⟨[.slc 0], [(0, .arr .str (([] : List Bytes) ++ a0))]⟩) none)) (cond (decide ((List.length ([] : List Bytes) + List.length a0) * 16 ≤ 140737488355328)) (some ⟨[.slc 0], [(0, .arr .str (([] : List Bytes) ++ a0))]⟩) none)) := (I43.run_eq _).trans (by kernel_rfl)
theorem f6_run (a0 : Int) (L : (List Int)) (at_ : Int) : I6.run ⟨[.ptr 0 0, .dat tI a0], [(0, .box [.dat (.slice tI) L, .dat tI at_])]⟩ = (cond (atOk 1000 at_ && decide (0 ≤ a0) && decide (a0 ≤ 5)) (cond (atOk 1 ((rightP L at_ a0).1)) (cond (next (L) ((rightP L at_ a0).1) (12 : Int) == 0) (cond (atOk 1 (nextAt ((rightP L at_ a0).1))) (cond ((next ((L)) (nextAt ((rightP L at_ a0).1)) (3 : Int)) == (0 : Int)) (cond (atOk 8 (nextAt (nextAt ((rightP L at_ a0).1)))) (some ⟨[.dat tPrgm (((rightP L at_ a0).2.1), (((rightP L at_ a0).2.2.1), (((rightP L at_ a0).2.2.2.1), (((rightP L at_ a0).2.2.2.2.1), ((oddS (((L))) (nextAt (nextAt ((rightP L at_ a0).1))) (-1 : Int) (4 : Int)).2)))))], [(0, .box [.dat (.slice tI) ((((L)))), .dat tI ((oddS (((L))) (nextAt (nextAt ((rightP L at_ a0).1))) (-1 : Int) (4 : Int)).1)])]⟩) none) (cond ((next ((L)) (nextAt ((rightP L at_ a0).1)) (3 : Int)) == (1 : Int)) (cond (atOk 8 (nextAt (nextAt ((rightP L at_ a0).1)))) (cond (atOk 8 ((oddS (((L))) (nextAt (nextAt ((rightP L at_ a0).1))) (0 : Int) (86400000 : Int)).1)) (cond (atOk 8 ((oddS ((((L)))) ((oddS (((L))) (nextAt (nextAt ((rightP L at_ a0).1))) (0 : Int) (86400000 : Int)).1) (0 : Int) (86400000 : Int)).1)) (some ⟨[.dat tPrgm (((rightP L at_ a0).2.1), (((oddS (((L))) (nextAt (nextAt ((rightP L at_ a0).1))) (0 : Int) (86400000 : Int)).2), (((oddS ((((L)))) ((oddS (((L))) (nextAt (nextAt ((rightP L at_ a0).1))) (0 : Int) (86400000 : Int)).1) (0 : Int) (86400000 : Int)).2), (((oddS (((((L))))) ((oddS ((((L)))) ((oddS (((L))) (nextAt (nextAt ((rightP L at_ a0).1))) (0 : Int) (86400000 : Int)).1) (0 : Int) (86400000 : Int)).1) (0 : Int) (86400000 : Int)).2), ((rightP L at_ a0).2.2.2.2.2)))))], [(0, .box [.dat (.slice tI) ((((((L)))))), .dat tI ((oddS (((((L))))) ((oddS ((((L)))) ((oddS (((L))) (nextAt (nextAt ((rightP L at_ a0).1))) (0 : Int) (86400000 : Int)).1) (0 : Int) (86400000 : Int)).1) (0 : Int) (86400000 : Int)).1)])]⟩) none) none) none) (cond (decide (((List.length ((rightP L at_ a0).2.1) : Nat) : Int) > (0 : Int))) (cond (atOk 1 (nextAt (nextAt ((rightP L at_ a0).1)))) (cond (decide ((0 : Int) ≤ (next (((L))) (nextAt (nextAt ((rightP L at_ a0).1))) ((List.length ((rightP L at_ a0).2.1) : Nat) : Int)))) (cond (decide ((next (((L))) (nextAt (nextAt ((rightP L at_ a0).1))) ((List.length ((rightP L at_ a0).2.1) : Nat) : Int)) < ((List.length ((rightP L at_ a0).2.1) : Nat) : Int))) (cond (decide ((Int.toNat (next (((L))) (nextAt (nextAt ((rightP L at_ a0).1))) ((List.length ((rightP L at_ a0).2.1) : Nat) : Int))) < List.length ((rightP L at_ a0).2.1))) (cond (decide ((Int.toNat (next (((L))) (nextAt (nextAt ((rightP L at_ a0).1))) ((List.length ((rightP L at_ a0).2.1) : Nat) : Int))) < List.length ((rightP L at_ a0).2.1))) (cond (decide ((Int.toNat (next (((L))) (nextAt (nextAt ((rightP L at_ a0).1))) ((List.length ((rightP L at_ a0).2.1) : Nat) : Int))) < List.length ((rightP L at_ a0).2.1))) (cond (atOk 1 (nextAt (nextAt (nextAt ((rightP L at_ a0).1)))) && decide (0 < List.length ([(List.getD ((rightP L at_ a0).2.1) (Int.toNat (next (((L))) (nextAt (nextAt ((rightP L at_ a0).1))) ((List.length ((rightP L at_ a0).2.1) : Nat) : Int))) (Tc.dflt tItem)).1, [], [97]] : List Bytes)) && decide (List.length ([(List.getD ((rightP L at_ a0).2.1) (Int.toNat (next (((L))) (nextAt (nextAt ((rightP L at_ a0).1))) ((List.length ((rightP L at_ a0).2.1) : Nat) : Int))) (Tc.dflt tItem)).1, [], [97]] : List Bytes) ≤ 1000)) (cond (atOk 8 (nextAt (nextAt (nextAt (nextAt ((rightP L at_ a0).1)))))) (cond (decide ((Int.toNat (next (((L))) (nextAt (nextAt ((rightP L at_ a0).1))) ((List.length ((rightP L at_ a0).2.1) : Nat) : Int))) < List.length ((rightP L at_ a0).2.1))) (cond (decide ((Int.toNat (next (((L))) (nextAt (nextAt ((rightP L at_ a0).1))) ((List.length ((rightP L at_ a0).2.1) : Nat) : Int))) < List.length ((rightP L at_ a0).2.1))) (cond (decide ((Int.toNat (next (((L))) (nextAt (nextAt ((rightP L at_ a0).1))) ((List.length ((rightP L at_ a0).2.1) : Nat) : Int))) < List.length ((rightP L at_ a0).2.1))) (cond (decide (List.length (List.getD ((rightP L at_ a0).2.1) (Int.toNat (next (((L))) (nextAt (nextAt ((rightP L at_ a0).1))) ((List.length ((rightP L at_ a0).2.1) : Nat) : Int))) (Tc.dflt tItem)).2.2.2 ≤ 1000)) (cond (atOk 1 ((oddS (((((L))))) (nextAt (nextAt (nextAt (nextAt ((rightP L at_ a0).1))))) (1 : Int) (86400000 : Int)).1) && decide (0 < List.length ([[122, 122], [], [97, 108, 116, 111]] : List Bytes)) && decide (List.length ([[122, 122], [], [97, 108, 116, 111]] : List Bytes) ≤ 1000)) (cond (decide ((List.length ((List.getD ((rightP L at_ a0).2.1) (Int.toNat (next (((L))) (nextAt (nextAt ((rightP L at_ a0).1))) ((List.length ((rightP L at_ a0).2.1) : Nat) : Int))) (Tc.dflt tItem)).2.2.2) + List.length ([(some_ ((((((L)))))) ((oddS (((((L))))) (nextAt (nextAt (nextAt (nextAt ((rightP L at_ a0).1))))) (1 : Int) (86400000 : Int)).1) ([[122, 122], [], [97, 108, 116, 111]] : List Bytes))] : List Bytes)) * 16 ≤ 140737488355328)) (cond (decide ((Int.toNat (next (((L))) (nextAt (nextAt ((rightP L at_ a0).1))) ((List.length ((rightP L at_ a0).2.1) : Nat) : Int))) < List.length ((rightP L at_ a0).2.1))) (cond (decide ((Int.toNat (next (((L))) (nextAt (nextAt ((rightP L at_ a0).1))) ((List.length ((rightP L at_ a0).2.1) : Nat) : Int))) < List.length ((rightP L at_ a0).2.1))) (cond (decide ((Int.toNat (next (((L))) (nextAt (nextAt ((rightP L at_ a0).1))) ((List.length ((rightP L at_ a0).2.1) : Nat) : Int))) < List.length ((rightP L at_ a0).2.1))) (cond (decide ((Int.toNat (next (((L))) (nextAt (nextAt ((rightP L at_ a0).1))) ((List.length ((rightP L at_ a0).2.1) : Nat) : Int))) < List.length (List.set ((rightP L at_ a0).2.1) (Int.toNat (next (((L))) (nextAt (nextAt ((rightP L at_ a0).1))) ((List.length ((rightP L at_ a0).2.1) : Nat) : Int))) ((some_ ((((L)))) (nextAt (nextAt (nextAt ((rightP L at_ a0).1)))) ([(List.getD ((rightP L at_ a0).2.1) (Int.toNat (next (((L))) (nextAt (nextAt ((rightP L at_ a0).1))) ((List.length ((rightP L at_ a0).2.1) : Nat) : Int))) (Tc.dflt tItem)).1, [], [97]] : List Bytes)), (List.getD ((rightP L at_ a0).2.1) (Int.toNat (next (((L))) (nextAt (nextAt ((rightP L at_ a0).1))) ((List.length ((rightP L at_ a0).2.1) : Nat) : Int))) (Tc.dflt tItem)).2)))) (cond (decide ((Int.toNat (next (((L))) (nextAt (nextAt ((rightP L at_ a0).1))) ((List.length ((rightP L at_ a0).2.1) : Nat) : Int))) < List.length (List.set ((rightP L at_ a0).2.1) (Int.toNat (next (((L))) (nextAt (nextAt ((rightP L at_ a0).1))) ((List.length ((rightP L at_ a0).2.1) : Nat) : Int))) ((some_ ((((L)))) (nextAt (nextAt (nextAt ((rightP L at_ a0).1)))) ([(List.getD ((rightP L at_ a0).2.1) (Int.toNat (next (((L))) (nextAt (nextAt ((rightP L at_ a0).1))) ((List.length ((rightP L at_ a0).2.1) : Nat) : Int))) (Tc.dflt tItem)).1, [], [97]] : List Bytes)), (List.getD ((rightP L at_ a0).2.1) (Int.toNat (next (((L))) (nextAt (nextAt ((rightP L at_ a0).1))) ((List.length ((rightP L at_ a0).2.1) : Nat) : Int))) (Tc.dflt tItem)).2)))) (cond (decide ((Int.toNat (next (((L))) (nextAt (nextAt ((rightP L at_ a0).1))) ((List.length ((rightP L at_ a0).2.1) : Nat) : Int))) < List.length (List.set ((rightP L at_ a0).2.1) (Int.toNat (next (((L))) (nextAt (nextAt ((rightP L at_ a0).1))) ((List.length ((rightP L at_ a0).2.1) : Nat) : Int))) ((some_ ((((L)))) (nextAt (nextAt (nextAt ((rightP L at_ a0).1)))) ([(List.getD ((rightP L at_ a0).2.1) (Int.toNat (next (((L))) (nextAt (nextAt ((rightP L at_ a0).1))) ((List.length ((rightP L at_ a0).2.1) : Nat) : Int))) (Tc.dflt tItem)).1, [], [97]] : List Bytes)), (List.getD ((rightP L at_ a0).2.1) (Int.toNat (next (((L))) (nextAt (nextAt ((rightP L at_ a0).1))) ((List.length ((rightP L at_ a0).2.1) : Nat) : Int))) (Tc.dflt tItem)).2)))) (cond (decide ((Int.toNat (next (((L))) (nextAt (nextAt ((rightP L at_ a0).1))) ((List.length ((rightP L at_ a0).2.1) : Nat) : Int))) < List.length (List.set (List.set ((rightP L at_ a0).2.1) (Int.toNat (next (((L))) (nextAt (nextAt ((rightP L at_ a0).1))) ((List.length ((rightP L at_ a0).2.1) : Nat) : Int))) ((some_ ((((L)))) (nextAt (nextAt (nextAt ((rightP L at_ a0).1)))) ([(List.getD ((rightP L at_ a0).2.1) (Int.toNat (next (((L))) (nextAt (nextAt ((rightP L at_ a0).1))) ((List.length ((rightP L at_ a0).2.1) : Nat) : Int))) (Tc.dflt tItem)).1, [], [97]] : List Bytes)), (List.getD ((rightP L at_ a0).2.1) (Int.toNat (next (((L))) (nextAt (nextAt ((rightP L at_ a0).1))) ((List.length ((rightP L at_ a0).2.1) : Nat) : Int))) (Tc.dflt tItem)).2)) (Int.toNat (next (((L))) (nextAt (nextAt ((rightP L at_ a0).1))) ((List.length ((rightP L at_ a0).2.1) : Nat) : Int))) ((List.getD (List.set ((rightP L at_ a0).2.1) (Int.toNat (next (((L))) (nextAt (nextAt ((rightP L at_ a0).1))) ((List.length ((rightP L at_ a0).2.1) : Nat) : Int))) ((some_ ((((L)))) (nextAt (nextAt (nextAt ((rightP L at_ a0).1)))) ([(List.getD ((rightP L at_ a0).2.1) (Int.toNat (next (((L))) (nextAt (nextAt ((rightP L at_ a0).1))) ((List.length ((rightP L at_ a0).2.1) : Nat) : Int))) (Tc.dflt tItem)).1, [], [97]] : List Bytes)), (List.getD ((rightP L at_ a0).2.1) (Int.toNat (next (((L))) (nextAt (nextAt ((rightP L at_ a0).1))) ((List.length ((rightP L at_ a0).2.1) : Nat) : Int))) (Tc.dflt tItem)).2)) (Int.toNat (next (((L))) (nextAt (nextAt ((rightP L at_ a0).1))) ((List.length ((rightP L at_ a0).2.1) : Nat) : Int))) (Tc.dflt tItem)).1, ((List.getD (List.set ((rightP L at_ a0).2.1) (Int.toNat (next (((L))) (nextAt (nextAt ((rightP L at_ a0).1))) ((List.length ((rightP L at_ a0).2.1) : Nat) : Int))) ((some_ ((((L)))) (nextAt (nextAt (nextAt ((rightP L at_ a0).1)))) ([(List.getD ((rightP L at_ a0).2.1) (Int.toNat (next (((L))) (nextAt (nextAt ((rightP L at_ a0).1))) ((List.length ((rightP L at_ a0).2.1) : Nat) : Int))) (Tc.dflt tItem)).1, [], [97]] : List Bytes)), (List.getD ((rightP L at_ a0).2.1) (Int.toNat (next (((L))) (nextAt (nextAt ((rightP L at_ a0).1))) ((List.length ((rightP L at_ a0).2.1) : Nat) : Int))) (Tc.dflt tItem)).2)) (Int.toNat (next (((L))) (nextAt (nextAt ((rightP L at_ a0).1))) ((List.length ((rightP L at_ a0).2.1) : Nat) : Int))) (Tc.dflt tItem)).2.1, (((oddS (((((L))))) (nextAt (nextAt (nextAt (nextAt ((rightP L at_ a0).1))))) (1 : Int) (86400000 : Int)).2), (List.getD (List.set ((rightP L at_ a0).2.1) (Int.toNat (next (((L))) (nextAt (nextAt ((rightP L at_ a0).1))) ((List.length ((rightP L at_ a0).2.1) : Nat) : Int))) ((some_ ((((L)))) (nextAt (nextAt (nextAt ((rightP L at_ a0).1)))) ([(List.getD ((rightP L at_ a0).2.1) (Int.toNat (next (((L))) (nextAt (nextAt ((rightP L at_ a0).1))) ((List.length ((rightP L at_ a0).2.1) : Nat) : Int))) (Tc.dflt tItem)).1, [], [97]] : List Bytes)), (List.getD ((rightP L at_ a0).2.1) (Int.toNat (next (((L))) (nextAt (nextAt ((rightP L at_ a0).1))) ((List.length ((rightP L at_ a0).2.1) : Nat) : Int))) (Tc.dflt tItem)).2)) (Int.toNat (next (((L))) (nextAt (nextAt ((rightP L at_ a0).1))) ((List.length ((rightP L at_ a0).2.1) : Nat) : Int))) (Tc.dflt tItem)).2.2.2)))))) (cond (decide ((Int.toNat (next (((L))) (nextAt (nextAt ((rightP L at_ a0).1))) ((List.length ((rightP L at_ a0).2.1) : Nat) : Int))) < List.length (List.set (List.set ((rightP L at_ a0).2.1) (Int.toNat (next (((L))) (nextAt (nextAt ((rightP L at_ a0).1))) ((List.length ((rightP L at_ a0).2.1) : Nat) : Int))) ((some_ ((((L)))) (nextAt (nextAt (nextAt ((rightP L at_ a0).1)))) ([(List.getD ((rightP L at_ a0).2.1) (Int.toNat (next (((L))) (nextAt (nextAt ((rightP L at_ a0).1))) ((List.length ((rightP L at_ a0).2.1) : Nat) : Int))) (Tc.dflt tItem)).1, [], [97]] : List Bytes)), (List.getD ((rightP L at_ a0).2.1) (Int.toNat (next (((L))) (nextAt (nextAt ((rightP L at_ a0).1))) ((List.length ((rightP L at_ a0).2.1) : Nat) : Int))) (Tc.dflt tItem)).2)) (Int.toNat (next (((L))) (nextAt (nextAt ((rightP L at_ a0).1))) ((List.length ((rightP L at_ a0).2.1) : Nat) : Int))) ((List.getD (List.set ((rightP L at_ a0).2.1) (Int.toNat (next (((L))) (nextAt (nextAt ((rightP L at_ a0).1))) ((List.length ((rightP L at_ a0).2.1) : Nat) : Int))) ((some_ ((((L)))) (nextAt (nextAt (nextAt ((rightP L at_ a0).1)))) ([(List.getD ((rightP L at_ a0).2.1) (Int.toNat (next (((L))) (nextAt (nextAt ((rightP L at_ a0).1))) ((List.length ((rightP L at_ a0).2.1) : Nat) : Int))) (Tc.dflt tItem)).1, [], [97]] : List Bytes)), (List.getD ((rightP L at_ a0).2.1) (Int.toNat (next (((L))) (nextAt (nextAt ((rightP L at_ a0).1))) ((List.length ((rightP L at_ a0).2.1) : Nat) : Int))) (Tc.dflt tItem)).2)) (Int.toNat (next (((L))) (nextAt (nextAt ((rightP L at_ a0).1))) ((List.length ((rightP L at_ a0).2.1) : Nat) : Int))) (Tc.dflt tItem)).1, ((List.getD (List.set ((rightP L at_ a0).2.1) (Int.toNat (next (((L))) (nextAt (nextAt ((rightP L at_ a0).1))) ((List.length ((rightP L at_ a0).2.1) : Nat) : Int))) ((some_ ((((L)))) (nextAt (nextAt (nextAt ((rightP L at_ a0).1)))) ([(List.getD ((rightP L at_ a0).2.1) (Int.toNat (next (((L))) (nextAt (nextAt ((rightP L at_ a0).1))) ((List.length ((rightP L at_ a0).2.1) : Nat) : Int))) (Tc.dflt tItem)).1, [], [97]] : List Bytes)), (List.getD ((rightP L at_ a0).2.1) (Int.toNat (next (((L))) (nextAt (nextAt ((rightP L at_ a0).1))) ((List.length ((rightP L at_ a0).2.1) : Nat) : Int))) (Tc.dflt tItem)).2)) (Int.toNat (next (((L))) (nextAt (nextAt ((rightP L at_ a0).1))) ((List.length ((rightP L at_ a0).2.1) : Nat) : Int))) (Tc.dflt tItem)).2.1, (((oddS (((((L))))) (nextAt (nextAt (nextAt (nextAt ((rightP L at_ a0).1))))) (1 : Int) (86400000 : Int)).2), (List.getD (List.set ((rightP L at_ a0).2.1) (Int.toNat (next (((L))) (nextAt (nextAt ((rightP L at_ a0).1))) ((List.length ((rightP L at_ a0).2.1) : Nat) : Int))) ((some_ ((((L)))) (nextAt (nextAt (nextAt ((rightP L at_ a0).1)))) ([(List.getD ((rightP L at_ a0).2.1) (Int.toNat (next (((L))) (nextAt (nextAt ((rightP L at_ a0).1))) ((List.length ((rightP L at_ a0).2.1) : Nat) : Int))) (Tc.dflt tItem)).1, [], [97]] : List Bytes)), (List.getD ((rightP L at_ a0).2.1) (Int.toNat (next (((L))) (nextAt (nextAt ((rightP L at_ a0).1))) ((List.length ((rightP L at_ a0).2.1) : Nat) : Int))) (Tc.dflt tItem)).2)) (Int.toNat (next (((L))) (nextAt (nextAt ((rightP L at_ a0).1))) ((List.length ((rightP L at_ a0).2.1) : Nat) : Int))) (Tc.dflt tItem)).2.2.2)))))) (cond (decide ((Int.toNat (next (((L))) (nextAt (nextAt ((rightP L at_ a0).1))) ((List.length ((rightP L at_ a0).2.1) : Nat) : Int))) < List.length (List.set (List.set ((rightP L at_ a0).2.1) (Int.toNat (next (((L))) (nextAt (nextAt ((rightP L at_ a0).1))) ((List.length ((rightP L at_ a0).2.1) : Nat) : Int))) ((some_ ((((L)))) (nextAt (nextAt (nextAt ((rightP L at_ a0).1)))) ([(List.getD ((rightP L at_ a0).2.1) (Int.toNat (next (((L))) (nextAt (nextAt ((rightP L at_ a0).1))) ((List.length ((rightP L at_ a0).2.1) : Nat) : Int))) (Tc.dflt tItem)).1, [], [97]] : List Bytes)), (List.getD ((rightP L at_ a0).2.1) (Int.toNat (next (((L))) (nextAt (nextAt ((rightP L at_ a0).1))) ((List.length ((rightP L at_ a0).2.1) : Nat) : Int))) (Tc.dflt tItem)).2)) (Int.toNat (next (((L))) (nextAt (nextAt ((rightP L at_ a0).1))) ((List.length ((rightP L at_ a0).2.1) : Nat) : Int))) ((List.getD (List.set ((rightP L at_ a0).2.1) (Int.toNat (next (((L))) (nextAt (nextAt ((rightP L at_ a0).1))) ((List.length ((rightP L at_ a0).2.1) : Nat) : Int))) ((some_ ((((L)))) (nextAt (nextAt (nextAt ((rightP L at_ a0).1)))) ([(List.getD ((rightP L at_ a0).2.1) (Int.toNat (next (((L))) (nextAt (nextAt ((rightP L at_ a0).1))) ((List.length ((rightP L at_ a0).2.1) : Nat) : Int))) (Tc.dflt tItem)).1, [], [97]] : List Bytes)), (List.getD ((rightP L at_ a0).2.1) (Int.toNat (next (((L))) (nextAt (nextAt ((rightP L at_ a0).1))) ((List.length ((rightP L at_ a0).2.1) : Nat) : Int))) (Tc.dflt tItem)).2)) (Int.toNat (next (((L))) (nextAt (nextAt ((rightP L at_ a0).1))) ((List.length ((rightP L at_ a0).2.1) : Nat) : Int))) (Tc.dflt tItem)).1, ((List.getD (List.set ((rightP L at_ a0).2.1) (Int.toNat (next (((L))) (nextAt (nextAt ((rightP L at_ a0).1))) ((List.length ((rightP L at_ a0).2.1) : Nat) : Int))) ((some_ ((((L)))) (nextAt (nextAt (nextAt ((rightP L at_ a0).1)))) ([(List.getD ((rightP L at_ a0).2.1) (Int.toNat (next (((L))) (nextAt (nextAt ((rightP L at_ a0).1))) ((List.length ((rightP L at_ a0).2.1) : Nat) : Int))) (Tc.dflt tItem)).1, [], [97]] : List Bytes)), (List.getD ((rightP L at_ a0).2.1) (Int.toNat (next (((L))) (nextAt (nextAt ((rightP L at_ a0).1))) ((List.length ((rightP L at_ a0).2.1) : Nat) : Int))) (Tc.dflt tItem)).2)) (Int.toNat (next (((L))) (nextAt (nextAt ((rightP L at_ a0).1))) ((List.length ((rightP L at_ a0).2.1) : Nat) : Int))) (Tc.dflt tItem)).2.1, (((oddS (((((L))))) (nextAt (nextAt (nextAt (nextAt ((rightP L at_ a0).1))))) (1 : Int) (86400000 : Int)).2), (List.getD (List.set ((rightP L at_ a0).2.1) (Int.toNat (next (((L))) (nextAt (nextAt ((rightP L at_ a0).1))) ((List.length ((rightP L at_ a0).2.1) : Nat) : Int))) ((some_ ((((L)))) (nextAt (nextAt (nextAt ((rightP L at_ a0).1)))) ([(List.getD ((rightP L at_ a0).2.1) (Int.toNat (next (((L))) (nextAt (nextAt ((rightP L at_ a0).1))) ((List.length ((rightP L at_ a0).2.1) : Nat) : Int))) (Tc.dflt tItem)).1, [], [97]] : List Bytes)), (List.getD ((rightP L at_ a0).2.1) (Int.toNat (next (((L))) (nextAt (nextAt ((rightP L at_ a0).1))) ((List.length ((rightP L at_ a0).2.1) : Nat) : Int))) (Tc.dflt tItem)).2)) (Int.toNat (next (((L))) (nextAt (nextAt ((rightP L at_ a0).1))) ((List.length ((rightP L at_ a0).2.1) : Nat) : Int))) (Tc.dflt tItem)).2.2.2)))))) (some ⟨[.dat tPrgm ((List.set (List.set (List.set ((rightP L at_ a0).2.1) (Int.toNat (next (((L))) (nextAt (nextAt ((rightP L at_ a0).1))) ((List.length ((rightP L at_ a0).2.1) : Nat) : Int))) ((some_ ((((L)))) (nextAt (nextAt (nextAt ((rightP L at_ a0).1)))) ([(List.getD ((rightP L at_ a0).2.1) (Int.toNat (next (((L))) (nextAt (nextAt ((rightP L at_ a0).1))) ((List.length ((rightP L at_ a0).2.1) : Nat) : Int))) (Tc.dflt tItem)).1, [], [97]] : List Bytes)), (List.getD ((rightP L at_ a0).2.1) (Int.toNat (next (((L))) (nextAt (nextAt ((rightP L at_ a0).1))) ((List.length ((rightP L at_ a0).2.1) : Nat) : Int))) (Tc.dflt tItem)).2)) (Int.toNat (next (((L))) (nextAt (nextAt ((rightP L at_ a0).1))) ((List.length ((rightP L at_ a0).2.1) : Nat) : Int))) ((List.getD (List.set ((rightP L at_ a0).2.1) (Int.toNat (next (((L))) (nextAt (nextAt ((rightP L at_ a0).1))) ((List.length ((rightP L at_ a0).2.1) : Nat) : Int))) ((some_ ((((L)))) (nextAt (nextAt (nextAt ((rightP L at_ a0).1)))) ([(List.getD ((rightP L at_ a0).2.1) (Int.toNat (next (((L))) (nextAt (nextAt ((rightP L at_ a0).1))) ((List.length ((rightP L at_ a0).2.1) : Nat) : Int))) (Tc.dflt tItem)).1, [], [97]] : List Bytes)), (List.getD ((rightP L at_ a0).2.1) (Int.toNat (next (((L))) (nextAt (nextAt ((rightP L at_ a0).1))) ((List.length ((rightP L at_ a0).2.1) : Nat) : Int))) (Tc.dflt tItem)).2)) (Int.toNat (next (((L))) (nextAt (nextAt ((rightP L at_ a0).1))) ((List.length ((rightP L at_ a0).2.1) : Nat) : Int))) (Tc.dflt tItem)).1, ((List.getD (List.set ((rightP L at_ a0).2.1) (Int.toNat (next (((L))) (nextAt (nextAt ((rightP L at_ a0).1))) ((List.length ((rightP L at_ a0).2.1) : Nat) : Int))) ((some_ ((((L)))) (nextAt (nextAt (nextAt ((rightP L at_ a0).1)))) ([(List.getD ((rightP L at_ a0).2.1) (Int.toNat (next (((L))) (nextAt (nextAt ((rightP L at_ a0).1))) ((List.length ((rightP L at_ a0).2.1) : Nat) : Int))) (Tc.dflt tItem)).1, [], [97]] : List Bytes)), (List.getD ((rightP L at_ a0).2.1) (Int.toNat (next (((L))) (nextAt (nextAt ((rightP L at_ a0).1))) ((List.length ((rightP L at_ a0).2.1) : Nat) : Int))) (Tc.dflt tItem)).2)) (Int.toNat (next (((L))) (nextAt (nextAt ((rightP L at_ a0).1))) ((List.length ((rightP L at_ a0).2.1) : Nat) : Int))) (Tc.dflt tItem)).2.1, (((oddS (((((L))))) (nextAt (nextAt (nextAt (nextAt ((rightP L at_ a0).1))))) (1 : Int) (86400000 : Int)).2), (List.getD (List.set ((rightP L at_ a0).2.1) (Int.toNat (next (((L))) (nextAt (nextAt ((rightP L at_ a0).1))) ((List.length ((rightP L at_ a0).2.1) : Nat) : Int))) ((some_ ((((L)))) (nextAt (nextAt (nextAt ((rightP L at_ a0).1)))) ([(List.getD ((rightP L at_ a0).2.1) (Int.toNat (next (((L))) (nextAt (nextAt ((rightP L at_ a0).1))) ((List.length ((rightP L at_ a0).2.1) : Nat) : Int))) (Tc.dflt tItem)).1, [], [97]] : List Bytes)), (List.getD ((rightP L at_ a0).2.1) (Int.toNat (next (((L))) (nextAt (nextAt ((rightP L at_ a0).1))) ((List.length ((rightP L at_ a0).2.1) : Nat) : Int))) (Tc.dflt tItem)).2)) (Int.toNat (next (((L))) (nextAt (nextAt ((rightP L at_ a0).1))) ((List.length ((rightP L at_ a0).2.1) : Nat) : Int))) (Tc.dflt tItem)).2.2.2)))) (Int.toNat (next (((L))) (nextAt (nextAt ((rightP L at_ a0).1))) ((List.length ((rightP L at_ a0).2.1) : Nat) : Int))) ((List.getD (List.set (List.set ((rightP L at_ a0).2.1) (Int.toNat (next (((L))) (nextAt (nextAt ((rightP L at_ a0).1))) ((List.length ((rightP L at_ a0).2.1) : Nat) : Int))) ((some_ ((((L)))) (nextAt (nextAt (nextAt ((rightP L at_ a0).1)))) ([(List.getD ((rightP L at_ a0).2.1) (Int.toNat (next (((L))) (nextAt (nextAt ((rightP L at_ a0).1))) ((List.length ((rightP L at_ a0).2.1) : Nat) : Int))) (Tc.dflt tItem)).1, [], [97]] : List Bytes)), (List.getD ((rightP L at_ a0).2.1) (Int.toNat (next (((L))) (nextAt (nextAt ((rightP L at_ a0).1))) ((List.length ((rightP L at_ a0).2.1) : Nat) : Int))) (Tc.dflt tItem)).2)) (Int.toNat (next (((L))) (nextAt (nextAt ((rightP L at_ a0).1))) ((List.length ((rightP L at_ a0).2.1) : Nat) : Int))) ((List.getD (List.set ((rightP L at_ a0).2.1) (Int.toNat (next (((L))) (nextAt (nextAt ((rightP L at_ a0).1))) ((List.length ((rightP L at_ a0).2.1) : Nat) : Int))) ((some_ ((((L)))) (nextAt (nextAt (nextAt ((rightP L at_ a0).1)))) ([(List.getD ((rightP L at_ a0).2.1) (Int.toNat (next (((L))) (nextAt (nextAt ((rightP L at_ a0).1))) ((List.length ((rightP L at_ a0).2.1) : Nat) : Int))) (Tc.dflt tItem)).1, [], [97]] : List Bytes)), (List.getD ((rightP L at_ a0).2.1) (Int.toNat (next (((L))) (nextAt (nextAt ((rightP L at_ a0).1))) ((List.length ((rightP L at_ a0).2.1) : Nat) : Int))) (Tc.dflt tItem)).2)) (Int.toNat (next (((L))) (nextAt (nextAt ((rightP L at_ a0).1))) ((List.length ((rightP L at_ a0).2.1) : Nat) : Int))) (Tc.dflt tItem)).1, ((List.getD (List.set ((rightP L at_ a0).2.1) (Int.toNat (next (((L))) (nextAt (nextAt ((rightP L at_ a0).1))) ((List.length ((rightP L at_ a0).2.1) : Nat) : Int))) ((some_ ((((L)))) (nextAt (nextAt (nextAt ((rightP L at_ a0).1)))) ([(List.getD ((rightP L at_ a0).2.1) (Int.toNat (next (((L))) (nextAt (nextAt ((rightP L at_ a0).1))) ((List.length ((rightP L at_ a0).2.1) : Nat) : Int))) (Tc.dflt tItem)).1, [], [97]] : List Bytes)), (List.getD ((rightP L at_ a0).2.1) (Int.toNat (next (((L))) (nextAt (nextAt ((rightP L at_ a0).1))) ((List.length ((rightP L at_ a0).2.1) : Nat) : Int))) (Tc.dflt tItem)).2)) (Int.toNat (next (((L))) (nextAt (nextAt ((rightP L at_ a0).1))) ((List.length ((rightP L at_ a0).2.1) : Nat) : Int))) (Tc.dflt tItem)).2.1, (((oddS (((((L))))) (nextAt (nextAt (nextAt (nextAt ((rightP L at_ a0).1))))) (1 : Int) (86400000 : Int)).2), (List.getD (List.set ((rightP L at_ a0).2.1) (Int.toNat (next (((L))) (nextAt (nextAt ((rightP L at_ a0).1))) ((List.length ((rightP L at_ a0).2.1) : Nat) : Int))) ((some_ ((((L)))) (nextAt (nextAt (nextAt ((rightP L at_ a0).1)))) ([(List.getD ((rightP L at_ a0).2.1) (Int.toNat (next (((L))) (nextAt (nextAt ((rightP L at_ a0).1))) ((List.length ((rightP L at_ a0).2.1) : Nat) : Int))) (Tc.dflt tItem)).1, [], [97]] : List Bytes)), (List.getD ((rightP L at_ a0).2.1) (Int.toNat (next (((L))) (nextAt (nextAt ((rightP L at_ a0).1))) ((List.length ((rightP L at_ a0).2.1) : Nat) : Int))) (Tc.dflt tItem)).2)) (Int.toNat (next (((L))) (nextAt (nextAt ((rightP L at_ a0).1))) ((List.length ((rightP L at_ a0).2.1) : Nat) : Int))) (Tc.dflt tItem)).2.2.2)))) (Int.toNat (next (((L))) (nextAt (nextAt ((rightP L at_ a0).1))) ((List.length ((rightP L at_ a0).2.1) : Nat) : Int))) (Tc.dflt tItem)).1, ((List.getD (List.set (List.set ((rightP L at_ a0).2.1) (Int.toNat (next (((L))) (nextAt (nextAt ((rightP L at_ a0).1))) ((List.length ((rightP L at_ a0).2.1) : Nat) : Int))) ((some_ ((((L)))) (nextAt (nextAt (nextAt ((rightP L at_ a0).1)))) ([(List.getD ((rightP L at_ a0).2.1) (Int.toNat (next (((L))) (nextAt (nextAt ((rightP L at_ a0).1))) ((List.length ((rightP L at_ a0).2.1) : Nat) : Int))) (Tc.dflt tItem)).1, [], [97]] : List Bytes)), (List.getD ((rightP L at_ a0).2.1) (Int.toNat (next (((L))) (nextAt (nextAt ((rightP L at_ a0).1))) ((List.length ((rightP L at_ a0).2.1) : Nat) : Int))) (Tc.dflt tItem)).2)) (Int.toNat (next (((L))) (nextAt (nextAt ((rightP L at_ a0).1))) ((List.length ((rightP L at_ a0).2.1) : Nat) : Int))) ((List.getD (List.set ((rightP L at_ a0).2.1) (Int.toNat (next (((L))) (nextAt (nextAt ((rightP L at_ a0).1))) ((List.length ((rightP L at_ a0).2.1) : Nat) : Int))) ((some_ ((((L)))) (nextAt (nextAt (nextAt ((rightP L at_ a0).1)))) ([(List.getD ((rightP L at_ a0).2.1) (Int.toNat (next (((L))) (nextAt (nextAt ((rightP L at_ a0).1))) ((List.length ((rightP L at_ a0).2.1) : Nat) : Int))) (Tc.dflt tItem)).1, [], [97]] : List Bytes)), (List.getD ((rightP L at_ a0).2.1) (Int.toNat (next (((L))) (nextAt (nextAt ((rightP L at_ a0).1))) ((List.length ((rightP L at_ a0).2.1) : Nat) : Int))) (Tc.dflt tItem)).2)) (Int.toNat (next (((L))) (nextAt (nextAt ((rightP L at_ a0).1))) ((List.length ((rightP L at_ a0).2.1) : Nat) : Int))) (Tc.dflt tItem)).1, ((List.getD (List.set ((rightP L at_ a0).2.1) (Int.toNat (next (((L))) (nextAt (nextAt ((rightP L at_ a0).1))) ((List.length ((rightP L at_ a0).2.1) : Nat) : Int))) ((some_ ((((L)))) (nextAt (nextAt (nextAt ((rightP L at_ a0).1)))) ([(List.getD ((rightP L at_ a0).2.1) (Int.toNat (next (((L))) (nextAt (nextAt ((rightP L at_ a0).1))) ((List.length ((rightP L at_ a0).2.1) : Nat) : Int))) (Tc.dflt tItem)).1, [], [97]] : List Bytes)), (List.getD ((rightP L at_ a0).2.1) (Int.toNat (next (((L))) (nextAt (nextAt ((rightP L at_ a0).1))) ((List.length ((rightP L at_ a0).2.1) : Nat) : Int))) (Tc.dflt tItem)).2)) (Int.toNat (next (((L))) (nextAt (nextAt ((rightP L at_ a0).1))) ((List.length ((rightP L at_ a0).2.1) : Nat) : Int))) (Tc.dflt tItem)).2.1, (((oddS (((((L))))) (nextAt (nextAt (nextAt (nextAt ((rightP L at_ a0).1))))) (1 : Int) (86400000 : Int)).2), (List.getD (List.set ((rightP L at_ a0).2.1) (Int.toNat (next (((L))) (nextAt (nextAt ((rightP L at_ a0).1))) ((List.length ((rightP L at_ a0).2.1) : Nat) : Int))) ((some_ ((((L)))) (nextAt (nextAt (nextAt ((rightP L at_ a0).1)))) ([(List.getD ((rightP L at_ a0).2.1) (Int.toNat (next (((L))) (nextAt (nextAt ((rightP L at_ a0).1))) ((List.length ((rightP L at_ a0).2.1) : Nat) : Int))) (Tc.dflt tItem)).1, [], [97]] : List Bytes)), (List.getD ((rightP L at_ a0).2.1) (Int.toNat (next (((L))) (nextAt (nextAt ((rightP L at_ a0).1))) ((List.length ((rightP L at_ a0).2.1) : Nat) : Int))) (Tc.dflt tItem)).2)) (Int.toNat (next (((L))) (nextAt (nextAt ((rightP L at_ a0).1))) ((List.length ((rightP L at_ a0).2.1) : Nat) : Int))) (Tc.dflt tItem)).2.2.2)))) (Int.toNat (next (((L))) (nextAt (nextAt ((rightP L at_ a0).1))) ((List.length ((rightP L at_ a0).2.1) : Nat) : Int))) (Tc.dflt tItem)).2.1, ((List.getD (List.set (List.set ((rightP L at_ a0).2.1) (Int.toNat (next (((L))) (nextAt (nextAt ((rightP L at_ a0).1))) ((List.length ((rightP L at_ a0).2.1) : Nat) : Int))) ((some_ ((((L)))) (nextAt (nextAt (nextAt ((rightP L at_ a0).1)))) ([(List.getD ((rightP L at_ a0).2.1) (Int.toNat (next (((L))) (nextAt (nextAt ((rightP L at_ a0).1))) ((List.length ((rightP L at_ a0).2.1) : Nat) : Int))) (Tc.dflt tItem)).1, [], [97]] : List Bytes)), (List.getD ((rightP L at_ a0).2.1) (Int.toNat (next (((L))) (nextAt (nextAt ((rightP L at_ a0).1))) ((List.length ((rightP L at_ a0).2.1) : Nat) : Int))) (Tc.dflt tItem)).2)) (Int.toNat (next (((L))) (nextAt (nextAt ((rightP L at_ a0).1))) ((List.length ((rightP L at_ a0).2.1) : Nat) : Int))) ((List.getD (List.set ((rightP L at_ a0).2.1) (Int.toNat (next (((L))) (nextAt (nextAt ((rightP L at_ a0).1))) ((List.length ((rightP L at_ a0).2.1) : Nat) : Int))) ((some_ ((((L)))) (nextAt (nextAt (nextAt ((rightP L at_ a0).1)))) ([(List.getD ((rightP L at_ a0).2.1) (Int.toNat (next (((L))) (nextAt (nextAt ((rightP L at_ a0).1))) ((List.length ((rightP L at_ a0).2.1) : Nat) : Int))) (Tc.dflt tItem)).1, [], [97]] : List Bytes)), (List.getD ((rightP L at_ a0).2.1) (Int.toNat (next (((L))) (nextAt (nextAt ((rightP L at_ a0).1))) ((List.length ((rightP L at_ a0).2.1) : Nat) : Int))) (Tc.dflt tItem)).2)) (Int.toNat (next (((L))) (nextAt (nextAt ((rightP L at_ a0).1))) ((List.length ((rightP L at_ a0).2.1) : Nat) : Int))) (Tc.dflt tItem)).1, ((List.getD (List.set ((rightP L at_ a0).2.1) (Int.toNat (next (((L))) (nextAt (nextAt ((rightP L at_ a0).1))) ((List.length ((rightP L at_ a0).2.1) : Nat) : Int))) ((some_ ((((L)))) (nextAt (nextAt (nextAt ((rightP L at_ a0).1)))) ([(List.getD ((rightP L at_ a0).2.1) (Int.toNat (next (((L))) (nextAt (nextAt ((rightP L at_ a0).1))) ((List.length ((rightP L at_ a0).2.1) : Nat) : Int))) (Tc.dflt tItem)).1, [], [97]] : List Bytes)), (List.getD ((rightP L at_ a0).2.1) (Int.toNat (next (((L))) (nextAt (nextAt ((rightP L at_ a0).1))) ((List.length ((rightP L at_ a0).2.1) : Nat) : Int))) (Tc.dflt tItem)).2)) (Int.toNat (next (((L))) (nextAt (nextAt ((rightP L at_ a0).1))) ((List.length ((rightP L at_ a0).2.1) : Nat) : Int))) (Tc.dflt tItem)).2.1, (((oddS (((((L))))) (nextAt (nextAt (nextAt (nextAt ((rightP L at_ a0).1))))) (1 : Int) (86400000 : Int)).2), (List.getD (List.set ((rightP L at_ a0).2.1) (Int.toNat (next (((L))) (nextAt (nextAt ((rightP L at_ a0).1))) ((List.length ((rightP L at_ a0).2.1) : Nat) : Int))) ((some_ ((((L)))) (nextAt (nextAt (nextAt ((rightP L at_ a0).1)))) ([(List.getD ((rightP L at_ a0).2.1) (Int.toNat (next (((L))) (nextAt (nextAt ((rightP L at_ a0).1))) ((List.length ((rightP L at_ a0).2.1) : Nat) : Int))) (Tc.dflt tItem)).1, [], [97]] : List Bytes)), (List.getD ((rightP L at_ a0).2.1) (Int.toNat (next (((L))) (nextAt (nextAt ((rightP L at_ a0).1))) ((List.length ((rightP L at_ a0).2.1) : Nat) : Int))) (Tc.dflt tItem)).2)) (Int.toNat (next (((L))) (nextAt (nextAt ((rightP L at_ a0).1))) ((List.length ((rightP L at_ a0).2.1) : Nat) : Int))) (Tc.dflt tItem)).2.2.2)))) (Int.toNat (next (((L))) (nextAt (nextAt ((rightP L at_ a0).1))) ((List.length ((rightP L at_ a0).2.1) : Nat) : Int))) (Tc.dflt tItem)).2.2.1, (((List.getD ((rightP L at_ a0).2.1) (Int.toNat (next (((L))) (nextAt (nextAt ((rightP L at_ a0).1))) ((List.length ((rightP L at_ a0).2.1) : Nat) : Int))) (Tc.dflt tItem)).2.2.2) ++ ([(some_ ((((((L)))))) ((oddS (((((L))))) (nextAt (nextAt (nextAt (nextAt ((rightP L at_ a0).1))))) (1 : Int) (86400000 : Int)).1) ([[122, 122], [], [97, 108, 116, 111]] : List Bytes))] : List Bytes)))))), (((rightP L at_ a0).2.2.1), (((rightP L at_ a0).2.2.2.1), (((rightP L at_ a0).2.2.2.2.1), ((rightP L at_ a0).2.2.2.2.2)))))], [(0, .box [.dat (.slice tI) (((((((L))))))), .dat tI (nextAt ((oddS (((((L))))) (nextAt (nextAt (nextAt (nextAt ((rightP L at_ a0).1))))) (1 : Int) (86400000 : Int)).1))])]⟩) none) none) none) none) none) none) none) none) none) none) none) none) none) none) none) none) none) none) none) none) none) none) none) (some ⟨[.dat tPrgm (((rightP L at_ a0).2.1), (((rightP L at_ a0).2.2.1), (((rightP L at_ a0).2.2.2.1), (((rightP L at_ a0).2.2.2.2.1), ((rightP L at_ a0).2.2.2.2.2)))))], [(0, .box [.dat (.slice tI) (((L))), .dat tI (nextAt (nextAt ((rightP L at_ a0).1)))])]⟩)))) none) (some ⟨[.dat tPrgm (((rightP L at_ a0).2.1), (((rightP L at_ a0).2.2.1), (((rightP L at_ a0).2.2.2.1), (((rightP L at_ a0).2.2.2.2.1), ((rightP L at_ a0).2.2.2.2.2)))))], [(0, .box [.dat (.slice tI) ((L)), .dat tI (nextAt ((rightP L at_ a0).1))])]⟩)) none) none) := (I6.run_eq _).trans (by kernel_rfl)
theorem f7_run (L : (List Int)) (at_ : Int) : I7.run ⟨[.ptr 0 0], [(0, .box [.dat (.slice tI) L, .dat tI at_])]⟩ = (cond (atOk 1 at_ && decide (0 < List.length [(0 : Int), (0 : Int), (100 : Int), (1000 : Int), (-1 : Int), (345686399500 : Int), (345686400000 : Int)]) && decide (List.length [(0 : Int), (0 : Int), (100 : Int), (1000 : Int), (-1 : Int), (345686399500 : Int), (345686400000 : Int)] ≤ 1000)) (some ⟨[.dat tI (pick L at_ [(0 : Int), (0 : Int), (100 : Int), (1000 : Int), (-1 : Int), (345686399500 : Int), (345686400000 : Int)])], [(0, .box [.dat (.slice tI) (L), .dat tI (nextAt at_)])]⟩) none) := (I7.run_eq _).trans (by kernel_rfl)
theorem f51_run (a0 : Item) (k : Bytes) (pl : Bytes) (lg : Int) (ps : (List Bytes)) : I51.run ⟨[.dat tItem a0, .ptr 0 0], [(0, .box [.dat .str k, .dat .str pl, .dat tI lg, .dat (.slice .str) ps])]⟩ = (some ⟨[.dat .bool (a0.1 == k)], [(0, .box [.dat .str k, .dat .str pl, .dat tI lg, .dat (.slice .str) ps])]⟩) := (I51.run_eq _).trans (by kernel_rfl)
noncomputable def f88h0 (x0 : (List Item)) (x1 : Int) (x2 : Int) (x3 : Bytes) (x4 : Bytes) (x5 : Int) (x6 : (List Bytes)) : Option Fr := I88.hd 0 (mkF 19 [(0, .dat (.slice tItem) x0), (1, .clos 51 [.ptr 0 0]), (7, .dat tI x1), (8, .dat tI x2)] [(0, .box [.dat .str x3, .dat .str x4, .dat tI x5, .dat (.slice .str) x6])])
theorem f88_run (a0 : (List Item)) (k : Bytes) (pl : Bytes) (lg : Int) (ps : (List Bytes)) : I88.run ⟨[.dat (.slice tItem) a0, .clos 51 [.ptr 0 0]], [(0, .box [.dat .str k, .dat .str pl, .dat tI lg, .dat (.slice .str) ps])]⟩ = (f88h0 a0 ((List.length a0 : Nat) : Int) (0 : Int) k pl lg ps) := (I88.run_eq _).trans (by kernel_rfl)
theorem f88h0_eq (x0 : (List Item)) (x1 : Int) (x2 : Int) (x3 : Bytes) (x4 : Bytes) (x5 : Int) (x6 : (List Bytes)) : f88h0 x0 x1 x2 x3 x4 x5 x6 = (cond (decide (x2 < x1)) (cond (decide ((0 : Int) ≤ x2)) (cond (decide (x2 < ((List.length x0 : Nat) : Int))) (cond (t51_0 (List.getD x0 (Int.toNat x2) (Tc.dflt tItem)) x3 x4 x5 x6) (some ⟨[.dat tI x2], [(0, .box [.dat .str x3, .dat .str x4, .dat tI x5, .dat (.slice .str) x6])]⟩) (f88h0 x0 x1 (wrap .i64 (x2 + (1 : Int))) x3 x4 x5 x6)) none) none) (some ⟨[.dat tI (-1 : Int)], [(0, .box [.dat .str x3, .dat .str x4, .dat tI x5, .dat (.slice .str) x6])]⟩)) := hdEq (by kernel_rfl)
theorem f50_run (a0 : (List Item)) (k : Bytes) (pl : Bytes) (lg : Int) (ps : (List Bytes)) : I50.run ⟨[.dat (.slice tItem) a0, .clos 51 [.ptr 0 0]], [(0, .box [.dat .str k, .dat .str pl, .dat tI lg, .dat (.slice .str) ps])]⟩ = (cond (decide (List.length a0 ≤ 1000)) (some ⟨[.dat .bool (decide ((idxBy (fun o => t51_0 o k pl lg ps) a0 0) ≥ (0 : Int)))], [(0, .box [.dat .str (k), .dat .str (pl), .dat tI (lg), .dat (.slice .str) (ps)])]⟩) none) := (I50.run_eq _).trans (by kernel_rfl)
theorem f49_run (a0 : Bytes) : I49.run ⟨[.dat .str a0], []⟩ = (cond (!(a0 == [])) (cond (decide (((List.length a0 : Nat) : Int) ≤ (40 : Int))) (cond (decide ((0 : Int) ≤ (0 : Int))) (cond (decide ((0 : Int) < ((List.length a0 : Nat) : Int))) (cond (decide ((indexB [97, 98, 99, 100, 101, 102, 103, 104, 105, 106, 107, 108, 109, 110, 111, 112, 113, 114, 115, 116, 117, 118, 119, 120, 121, 122] ((UInt8.toNat (List.getD a0 (Int.toNat (0 : Int)) 0) : Nat) : Int)) ≥ (0 : Int))) (cond (trimOk a0 [97, 98, 99, 100, 101, 102, 103, 104, 105, 106, 107, 108, 109, 110, 111, 112, 113, 114, 115, 116, 117, 118, 119, 120, 121, 122, 48, 49, 50, 51, 52, 53, 54, 55, 56, 57, 45, 95]) (some ⟨[.dat .bool ((trimB a0 [97, 98, 99, 100, 101, 102, 103, 104, 105, 106, 107, 108, 109, 110, 111, 112, 113, 114, 115, 116, 117, 118, 119, 120, 121, 122, 48, 49, 50, 51, 52, 53, 54, 55, 56, 57, 45, 95]) == [])], []⟩) none) (some ⟨[.dat .bool false], []⟩)) none) none) (some ⟨[.dat .bool false], []⟩)) (some ⟨[.dat .bool false], []⟩)) := (I49.run_eq _).trans (by kernel_rfl)
theorem f52_run (a0 : Int) (a1 : Int) (a2 : Int) : I52.run ⟨[.dat tI a0, .dat tI a1, .dat tI a2], []⟩ = (cond (decide (a0 < a1)) (some ⟨[.dat .bool true], []⟩) (some ⟨[.dat .bool (decide (a0 > a2))], []⟩)) := (I52.run_eq _).trans (by kernel_rfl)
noncomputable def f53h0 (x0 : (List Bytes)) (x1 : (List Bytes)) (x2 : Int) (x3 : Int) : Option Fr := I53.hd 0 (mkF 33 [(0, .dat (.slice .str) x0), (11, .dat (.slice .str) x1), (12, .dat tI x2), (13, .dat tI x3)] [])
theorem f53_run (a0 : (List Bytes)) : I53.run ⟨[.dat (.slice .str) a0], []⟩ = (cond (((List.length a0 : Nat) : Int) == (0 : Int)) (some ⟨[.dat tI (8 : Int)], []⟩) (cond (decide (((List.length a0 : Nat) : Int) > (12 : Int))) (some ⟨[.dat tI (2 : Int)], []⟩) (f53h0 a0 a0 ((List.length a0 : Nat) : Int) (0 : Int)))) := (I53.run_eq _).trans (by kernel_rfl)
theorem f53h0_eq (x0 : (List Bytes)) (x1 : (List Bytes)) (x2 : Int) (x3 : Int) : f53h0 x0 x1 x2 x3 = (cond (decide (x3 < x2)) (cond (decide ((0 : Int) ≤ x3)) (cond (decide (x3 < ((List.length x1 : Nat) : Int))) (cond (!(isKey (List.getD x1 (Int.toNat x3) (Tc.dflt .str)))) (some ⟨[.dat tI (5 : Int)], []⟩) (cond (decide (x3 > (0 : Int))) (cond (decide ((0 : Int) ≤ (wrap .i64 (x3 - (1 : Int))))) (cond (decide ((wrap .i64 (x3 - (1 : Int))) < ((List.length x0 : Nat) : Int))) (cond (bLess (List.getD x1 (Int.toNat x3) (Tc.dflt .str)) (List.getD x0 (Int.toNat (wrap .i64 (x3 - (1 : Int)))) (Tc.dflt .str)) || (List.getD x1 (Int.toNat x3) (Tc.dflt .str)) == (List.getD x0 (Int.toNat (wrap .i64 (x3 - (1 : Int)))) (Tc.dflt .str))) (some ⟨[.dat tI (7 : Int)], []⟩) (f53h0 x0 x1 x2 (wrap .i64 (x3 + (1 : Int))))) none) none) (f53h0 x0 x1 x2 (wrap .i64 (x3 + (1 : Int)))))) none) none) (some ⟨[.dat tI (0 : Int)], []⟩)) := hdEq (by kernel_rfl)
noncomputable def f16h0 (x0 : (List Item)) (x1 : (List Item)) (x2 : Int) (x3 : Int) : Option Fr := I16.hd 0 (mkF 44 [(0, .dat (.slice tItem) x0), (9, .dat (.slice tItem) x1), (10, .dat tI x2), (11, .dat tI x3)] [])
theorem f16_run (a0 : (List Item)) : I16.run ⟨[.dat (.slice tItem) a0], []⟩ = (cond (decide (((List.length a0 : Nat) : Int) > (60 : Int))) (some ⟨[.dat tI (2 : Int)], []⟩) (f16h0 a0 a0 ((List.length a0 : Nat) : Int) (0 : Int))) := (I16.run_eq _).trans (by kernel_rfl)
theorem f16h0_eq (x0 : (List Item)) (x1 : (List Item)) (x2 : Int) (x3 : Int) : f16h0 x0 x1 x2 x3 = (cond (decide (x3 < x2)) (cond (decide ((0 : Int) ≤ x3)) (cond (decide (x3 < ((List.length x1 : Nat) : Int))) (cond (!(isKey (List.getD x1 (Int.toNat x3) (Tc.dflt tItem)).1)) (some ⟨[.dat tI (5 : Int)], []⟩) (cond (!(isKey (List.getD x1 (Int.toNat x3) (Tc.dflt tItem)).2.1)) (some ⟨[.dat tI (5 : Int)], []⟩) (cond (decide ((0 : Int) ≤ (0 : Int))) (cond (decide ((0 : Int) ≤ x3)) (cond (decide (x3 ≤ ((List.length x0 : Nat) : Int))) (cond (t50_ok (List.drop (Int.toNat (0 : Int)) (List.take (Int.toNat x3) x0)) (List.getD x1 (Int.toNat x3) (Tc.dflt tItem)).1 (List.getD x1 (Int.toNat x3) (Tc.dflt tItem)).2.1 (List.getD x1 (Int.toNat x3) (Tc.dflt tItem)).2.2.1 (List.getD x1 (Int.toNat x3) (Tc.dflt tItem)).2.2.2) (cond (t50_0 (List.drop (Int.toNat (0 : Int)) (List.take (Int.toNat x3) x0)) (List.getD x1 (Int.toNat x3) (Tc.dflt tItem)).1 (List.getD x1 (Int.toNat x3) (Tc.dflt tItem)).2.1 (List.getD x1 (Int.toNat x3) (Tc.dflt tItem)).2.2.1 (List.getD x1 (Int.toNat x3) (Tc.dflt tItem)).2.2.2) (some ⟨[.dat tI (6 : Int)], []⟩) (cond (outside (t50_3 (List.drop (Int.toNat (0 : Int)) (List.take (Int.toNat x3) x0)) (List.getD x1 (Int.toNat x3) (Tc.dflt tItem)).1 (List.getD x1 (Int.toNat x3) (Tc.dflt tItem)).2.1 (List.getD x1 (Int.toNat x3) (Tc.dflt tItem)).2.2.1 (List.getD x1 (Int.toNat x3) (Tc.dflt tItem)).2.2.2) (1 : Int) (86400000 : Int)) (some ⟨[.dat tI (1 : Int)], []⟩) (cond ((partsF isKey (t50_4 (List.drop (Int.toNat (0 : Int)) (List.take (Int.toNat x3) x0)) (List.getD x1 (Int.toNat x3) (Tc.dflt tItem)).1 (List.getD x1 (Int.toNat x3) (Tc.dflt tItem)).2.1 (List.getD x1 (Int.toNat x3) (Tc.dflt tItem)).2.2.1 (List.getD x1 (Int.toNat x3) (Tc.dflt tItem)).2.2.2)) != (0 : Int)) (some ⟨[.dat tI (partsF isKey (t50_4 (List.drop (Int.toNat (0 : Int)) (List.take (Int.toNat x3) x0)) (List.getD x1 (Int.toNat x3) (Tc.dflt tItem)).1 (List.getD x1 (Int.toNat x3) (Tc.dflt tItem)).2.1 (List.getD x1 (Int.toNat x3) (Tc.dflt tItem)).2.2.1 (List.getD x1 (Int.toNat x3) (Tc.dflt tItem)).2.2.2))], []⟩) (f16h0 x0 x1 x2 (wrap .i64 (x3 + (1 : Int))))))) none) none) none) none))) none) none) (some ⟨[.dat tI (0 : Int)], []⟩)) := hdEq (by kernel_rfl)
theorem f18_run (a0 : Prgm) : I18.run ⟨[.dat tPrgm a0], []⟩ = (cond ((checkItems isKey a0.1) != (0 : Int)) (some ⟨[.dat tI (checkItems isKey a0.1)], []⟩) (cond (outside a0.2.1 (0 : Int) (86400000 : Int)) (some ⟨[.dat tI (1 : Int)], []⟩) (cond (outside a0.2.2.1 (0 : Int) (86400000 : Int)) (some ⟨[.dat tI (1 : Int)], []⟩) (cond (outside a0.2.2.2.1 (0 : Int) (86400000 : Int)) (some ⟨[.dat tI (1 : Int)], []⟩) (cond (outside a0.2.2.2.2 (-1 : Int) (if (-1 : Int) < (wrap .i64 (((List.length a0.1 : Nat) : Int) - (2 : Int))) then (wrap .i64 (((List.length a0.1 : Nat) : Int) - (2 : Int))) else (-1 : Int))) (some ⟨[.dat tI (1 : Int)], []⟩) (some ⟨[.dat tI (0 : Int)], []⟩)))))) := (I18.run_eq _).trans (by kernel_rfl)
theorem f74_run (a0 : Prgm) (a1 : Item) (a2 : Item) : I74.run ⟨[.dat tPrgm a0, .dat tItem a1, .dat tItem a2], []⟩ = (cond (!(a1.2.1 == a2.2.1)) (some ⟨[.dat tI a0.2.1], []⟩) (some ⟨[.dat tI a0.2.2.1], []⟩)) := (I74.run_eq _).trans (by kernel_rfl)
theorem f85_run (a0 : Prgm) (a1 : Int) : I85.run ⟨[.dat tPrgm a0, .dat tI a1], []⟩ = (cond (a1 == a0.2.2.2.2) (some ⟨[.dat tI a0.2.2.2.1], []⟩) (cond (decide ((0 : Int) ≤ a1)) (cond (decide (a1 < ((List.length a0.1 : Nat) : Int))) (cond (decide ((0 : Int) ≤ (wrap .i64 (a1 + (1 : Int))))) (cond (decide ((wrap .i64 (a1 + (1 : Int))) < ((List.length a0.1 : Nat) : Int))) (some ⟨[.dat tI (t74_0 (a0.1, (a0.2.1, (a0.2.2.1, (a0.2.2.2.1, a0.2.2.2.2)))) (List.getD a0.1 (Int.toNat a1) (Tc.dflt tItem)) (List.getD a0.1 (Int.toNat (wrap .i64 (a1 + (1 : Int)))) (Tc.dflt tItem)))], []⟩) none) none) none) none)) := (I85.run_eq _).trans (by kernel_rfl)
noncomputable def f45h0 (x0 : Int) (x1 : (List Item)) (x2 : Int) (x3 : Int) (x4 : (List Item)) (x5 : Int) (x6 : Int) (x7 : Int) (x8 : Int) (x9 : (List Int)) : Option Fr := I45.hd 0 (mkF 38 [(1, .ptr 500 0), (4, .slc 501), (5, .dat tI x0), (9, .dat (.slice tItem) x1), (10, .dat tI x2), (11, .dat tI x3)] [(500, .box [.dat (.slice tItem) x4, .dat tI x5, .dat tI x6, .dat tI x7, .dat tI x8]), (501, .arr tI x9)])
theorem f45_run (a0 : Prgm) : I45.run ⟨[.dat tPrgm a0], []⟩ = (f45h0 (0 : Int) a0.1 ((List.length a0.1 : Nat) : Int) (0 : Int) a0.1 a0.2.1 a0.2.2.1 a0.2.2.2.1 a0.2.2.2.2 ([] : List Int)) := (I45.run_eq _).trans (by kernel_rfl)
theorem f45h0_eq (x0 : Int) (x1 : (List Item)) (x2 : Int) (x3 : Int) (x4 : (List Item)) (x5 : Int) (x6 : Int) (x7 : Int) (x8 : Int) (x9 : (List Int)) : f45h0 x0 x1 x2 x3 x4 x5 x6 x7 x8 x9 = (cond (decide (x3 < x2)) (cond (decide ((0 : Int) ≤ x3)) (cond (decide (x3 < ((List.length x1 : Nat) : Int))) (cond (decide ((List.length x9 + List.length [x0]) * 8 ≤ 140737488355328)) (cond (decide ((wrap .i64 (x3 + (1 : Int))) < ((List.length x4 : Nat) : Int))) (cond (decide (0 ≤ x3) && decide (x3 + 1 < (List.length (x4, (x5, (x6, (x7, x8)))).1 : Int)) && decide (List.length (x4, (x5, (x6, (x7, x8)))).1 ≤ 1000)) (f45h0 (wrap .i64 ((wrap .i64 (x0 + (List.getD x1 (Int.toNat x3) (Tc.dflt tItem)).2.2.1)) + (behindF (x4, (x5, (x6, (x7, x8)))) x3))) x1 x2 (wrap .i64 (x3 + (1 : Int))) x4 x5 x6 x7 x8 (x9 ++ [x0])) none) (f45h0 (wrap .i64 (x0 + (List.getD x1 (Int.toNat x3) (Tc.dflt tItem)).2.2.1)) x1 x2 (wrap .i64 (x3 + (1 : Int))) x4 x5 x6 x7 x8 (x9 ++ [x0]))) none) none) none) (some ⟨[.slc 0, .dat tI x0], [(0, .arr tI x9)]⟩)) := hdEq (by kernel_rfl)
theorem f84_run (a0 : Int) : I84.run ⟨[.dat tI a0], []⟩ = (some ⟨[.dat .bool (!(outside a0 (0 : Int) (345686399999 : Int)))], []⟩) := (I84.run_eq _).trans (by kernel_rfl)
theorem f44_run (a0 : Prgm) (a1 : Int) : I44.run ⟨[.dat tPrgm a0, .dat tI a1], []⟩ = (cond ((checkProg isKey (a0.1, (a0.2.1, (a0.2.2.1, (a0.2.2.2.1, a0.2.2.2.2))))) != (0 : Int)) (some ⟨[.dat tI (checkProg isKey (a0.1, (a0.2.1, (a0.2.2.1, (a0.2.2.2.1, a0.2.2.2.2)))))], []⟩) (cond (decide (List.length (a0.1, (a0.2.1, (a0.2.2.1, (a0.2.2.2.1, a0.2.2.2.2)))).1 ≤ 1000)) (cond (!(t84_0 a1)) (some ⟨[.dat tI (1 : Int)], []⟩) (cond (decide ((wrap .i64 (a1 + ((begGo (a0.1, (a0.2.1, (a0.2.2.1, (a0.2.2.2.1, a0.2.2.2.2)))) 0 0 (a0.1, (a0.2.1, (a0.2.2.1, (a0.2.2.2.1, a0.2.2.2.2)))).1).2))) > (345686400000 : Int))) (some ⟨[.dat tI (1 : Int)], []⟩) (some ⟨[.dat tI (0 : Int)], []⟩))) none)) := (I44.run_eq _).trans (by kernel_rfl)
noncomputable def f8h0 (x0 : Int) (x1 : (List Item)) (x2 : Int) (x3 : Int) (x4 : (List Int)) (x5 : (List Timed)) : Option Fr := I8.hd 0 (mkF 55 [(1, .dat tI x0), (7, .slc 500), (9, .slc 501), (24, .dat (.slice tItem) x1), (25, .dat tI x2), (26, .dat tI x3)] [(500, .arr tI x4), (501, .arr tTimed x5)])
theorem f8_run (a0 : Prgm) (a1 : Int) : I8.run ⟨[.dat tPrgm a0, .dat tI a1], []⟩ = (cond ((fromF (a0.1, (a0.2.1, (a0.2.2.1, (a0.2.2.2.1, a0.2.2.2.2)))) a1) != (0 : Int)) (some ⟨[.slc 0, .dat tI (fromF (a0.1, (a0.2.1, (a0.2.2.1, (a0.2.2.2.1, a0.2.2.2.2)))) a1)], [(0, .arr tTimed ([] : List Timed))]⟩) (cond (decide (List.length (a0.1, (a0.2.1, (a0.2.2.1, (a0.2.2.2.1, a0.2.2.2.2)))).1 ≤ 1000)) (f8h0 a1 a0.1 ((List.length a0.1 : Nat) : Int) (0 : Int) ((begGo (a0.1, (a0.2.1, (a0.2.2.1, (a0.2.2.2.1, a0.2.2.2.2)))) 0 0 (a0.1, (a0.2.1, (a0.2.2.1, (a0.2.2.2.1, a0.2.2.2.2)))).1).1) ([] : List Timed)) none)) := (I8.run_eq _).trans (by kernel_rfl)
theorem f8h0_eq (x0 : Int) (x1 : (List Item)) (x2 : Int) (x3 : Int) (x4 : (List Int)) (x5 : (List Timed)) : f8h0 x0 x1 x2 x3 x4 x5 = (cond (decide (x3 < x2)) (cond (decide ((0 : Int) ≤ x3)) (cond (decide (x3 < ((List.length x1 : Nat) : Int))) (cond (decide ((0 : Int) ≤ x3)) (cond (decide (x3 < ((List.length x4 : Nat) : Int))) (cond (decide ((Int.toNat x3) < List.length x4)) (cond (decide ((0 : Int) ≤ x3)) (cond (decide (x3 < ((List.length x4 : Nat) : Int))) (cond (decide ((Int.toNat x3) < List.length x4)) (cond (decide ((List.length x5 + List.length ([((List.getD x1 (Int.toNat x3) (Tc.dflt tItem)).1, ((wrap .i64 (x0 + (List.getD x4 (Int.toNat x3) (Tc.dflt tI)))), (wrap .i64 ((wrap .i64 (x0 + (List.getD x4 (Int.toNat x3) (Tc.dflt tI)))) + (List.getD x1 (Int.toNat x3) (Tc.dflt tItem)).2.2.1))))] : List Timed)) * 32 ≤ 140737488355328)) (f8h0 x0 x1 x2 (wrap .i64 (x3 + (1 : Int))) x4 (x5 ++ ([((List.getD x1 (Int.toNat x3) (Tc.dflt tItem)).1, ((wrap .i64 (x0 + (List.getD x4 (Int.toNat x3) (Tc.dflt tI)))), (wrap .i64 ((wrap .i64 (x0 + (List.getD x4 (Int.toNat x3) (Tc.dflt tI)))) + (List.getD x1 (Int.toNat x3) (Tc.dflt tItem)).2.2.1))))] : List Timed))) none) none) none) none) none) none) none) none) none) (some ⟨[.slc 0, .dat tI (0 : Int)], [(0, .arr tTimed x5)]⟩)) := hdEq (by kernel_rfl)
theorem f9_run (a0 : Prgm) : I9.run ⟨[.dat tPrgm a0], []⟩ = (cond ((checkProg isKey (a0.1, (a0.2.1, (a0.2.2.1, (a0.2.2.2.1, a0.2.2.2.2))))) != (0 : Int)) (some ⟨[.dat tI (0 : Int), .dat tI (checkProg isKey (a0.1, (a0.2.1, (a0.2.2.1, (a0.2.2.2.1, a0.2.2.2.2)))))], []⟩) (cond (decide (List.length (a0.1, (a0.2.1, (a0.2.2.1, (a0.2.2.2.1, a0.2.2.2.2)))).1 ≤ 1000)) (some ⟨[.dat tI ((begGo (a0.1, (a0.2.1, (a0.2.2.1, (a0.2.2.2.1, a0.2.2.2.2)))) 0 0 (a0.1, (a0.2.1, (a0.2.2.1, (a0.2.2.2.1, a0.2.2.2.2)))).1).2), .dat tI (0 : Int)], []⟩) none)) := (I9.run_eq _).trans (by kernel_rfl)
end Go.Ev.K

set_option linter.unusedVariables false
set_option linter.unusedSimpArgs false
set_option maxRecDepth 100000
namespace Go.Ev.K
open Go Go.Ev Go.Proofs
noncomputable def f10h0 (x0 : Int) (x1 : Int) (x2 : (List Item)) (x3 : Int) (x4 : Int) (x5 : Int) (x6 : Int) : Option Fr := I10.hd 0 (mkF 43 [(1, .ptr 500 0), (5, .dat tI x0), (6, .dat tI x1)] [(500, .box [.dat (.slice tItem) x2, .dat tI x3, .dat tI x4, .dat tI x5, .dat tI x6])])
theorem f10_run (a0 : Prgm) : I10.run ⟨[.dat tPrgm a0], []⟩ = (cond ((checkProg isKey (a0.1, (a0.2.1, (a0.2.2.1, (a0.2.2.2.1, a0.2.2.2.2))))) != (0 : Int)) (some ⟨[.dat tI (0 : Int), .dat tI (checkProg isKey (a0.1, (a0.2.1, (a0.2.2.1, (a0.2.2.2.1, a0.2.2.2.2)))))], []⟩) (f10h0 (0 : Int) (1 : Int) a0.1 a0.2.1 a0.2.2.1 a0.2.2.2.1 a0.2.2.2.2)) := (I10.run_eq _).trans (by kernel_rfl)
theorem f10h0_eq (x0 : Int) (x1 : Int) (x2 : (List Item)) (x3 : Int) (x4 : Int) (x5 : Int) (x6 : Int) : f10h0 x0 x1 x2 x3 x4 x5 x6 = (cond (decide (x1 < ((List.length x2 : Nat) : Int))) (cond ((wrap .i64 (x1 - (1 : Int))) != x6) (cond (decide ((0 : Int) ≤ x1)) (cond (decide (x1 < ((List.length x2 : Nat) : Int))) (cond (decide ((0 : Int) ≤ (wrap .i64 (x1 - (1 : Int))))) (cond (decide ((wrap .i64 (x1 - (1 : Int))) < ((List.length x2 : Nat) : Int))) (cond (!((List.getD x2 (Int.toNat x1) (Tc.dflt tItem)).2.1 == (List.getD x2 (Int.toNat (wrap .i64 (x1 - (1 : Int)))) (Tc.dflt tItem)).2.1)) (f10h0 (wrap .i64 (x0 + (1 : Int))) (wrap .i64 (x1 + (1 : Int))) x2 x3 x4 x5 x6) (f10h0 x0 (wrap .i64 (x1 + (1 : Int))) x2 x3 x4 x5 x6)) none) none) none) none) (f10h0 x0 (wrap .i64 (x1 + (1 : Int))) x2 x3 x4 x5 x6)) (some ⟨[.dat tI x0, .dat tI (0 : Int)], []⟩)) := hdEq (by kernel_rfl)
theorem f46_run (a0 : Int) (a1 : Int) (a2 : Int) : I46.run ⟨[.dat tI a0, .dat tI a1, .dat tI a2], []⟩ = (cond (decide (a1 ≤ a0)) (some ⟨[.dat .bool (decide (a0 ≤ a2))], []⟩) (some ⟨[.dat .bool false], []⟩)) := (I46.run_eq _).trans (by kernel_rfl)
noncomputable def f89h0 (x0 : Bytes) (x1 : Bytes) (x2 : Int) (x3 : Int) : Option Fr := I89.hd 0 (mkF 18 [(0, .dat .str x0), (1, .dat .str x1), (7, .dat tI x2), (8, .dat tI x3)] [])
theorem f89_run (a0 : Bytes) (a1 : Bytes) : I89.run ⟨[.dat .str a0, .dat .str a1], []⟩ = (f89h0 a0 a1 ((List.length a0 : Nat) : Int) (0 : Int)) := (I89.run_eq _).trans (by kernel_rfl)
theorem f89h0_eq (x0 : Bytes) (x1 : Bytes) (x2 : Int) (x3 : Int) : f89h0 x0 x1 x2 x3 = (cond (decide (x3 < x2)) (cond (decide ((0 : Int) ≤ x3)) (cond (decide (x3 < ((List.length x0 : Nat) : Int))) (cond (decide ((indexB x1 ((UInt8.toNat (List.getD x0 (Int.toNat x3) 0) : Nat) : Int)) < (0 : Int))) (some ⟨[.dat .bool false], []⟩) (f89h0 x0 x1 x2 (wrap .i64 (x3 + (1 : Int))))) none) none) (some ⟨[.dat .bool true], []⟩)) := hdEq (by kernel_rfl)
theorem f54_run (a0 : Bytes) : I54.run ⟨[.dat .str a0], []⟩ = (cond (inR ((List.length a0 : Nat) : Int) (1 : Int) (40 : Int)) (cond (decide ((0 : Int) ≤ (0 : Int))) (cond (decide ((0 : Int) ≤ (1 : Int))) (cond (decide ((1 : Int) ≤ ((List.length a0 : Nat) : Int))) (cond (decide (List.length (List.drop (Int.toNat (0 : Int)) (List.take (Int.toNat (1 : Int)) a0)) ≤ 1000000)) (cond (onlyB (List.drop (Int.toNat (0 : Int)) (List.take (Int.toNat (1 : Int)) a0)) [97, 98, 99, 100, 101, 102, 103, 104, 105, 106, 107, 108, 109, 110, 111, 112, 113, 114, 115, 116, 117, 118, 119, 120, 121, 122]) (cond (decide (List.length a0 ≤ 1000000)) (some ⟨[.dat .bool (onlyB a0 [97, 98, 99, 100, 101, 102, 103, 104, 105, 106, 107, 108, 109, 110, 111, 112, 113, 114, 115, 116, 117, 118, 119, 120, 121, 122, 48, 49, 50, 51, 52, 53, 54, 55, 56, 57, 45, 95])], []⟩) none) (some ⟨[.dat .bool false], []⟩)) none) none) none) none) (some ⟨[.dat .bool false], []⟩)) := (I54.run_eq _).trans (by kernel_rfl)
theorem f90_run (a0 : Item) (k : Bytes) : I90.run ⟨[.dat tItem a0, .ptr 0 0], [(0, .box [.dat .str k])]⟩ = (some ⟨[.dat .bool (a0.1 == k)], [(0, .box [.dat .str k])]⟩) := (I90.run_eq _).trans (by kernel_rfl)
noncomputable def f88ah0 (x0 : (List Item)) (x1 : Int) (x2 : Int) (x3 : Bytes) : Option Fr := I88a.hd 0 (mkF 19 [(0, .dat (.slice tItem) x0), (1, .clos 90 [.ptr 0 0]), (7, .dat tI x1), (8, .dat tI x2)] [(0, .box [.dat .str x3])])
theorem f88a_run (a0 : (List Item)) (k : Bytes) : I88a.run ⟨[.dat (.slice tItem) a0, .clos 90 [.ptr 0 0]], [(0, .box [.dat .str k])]⟩ = (f88ah0 a0 ((List.length a0 : Nat) : Int) (0 : Int) k) := (I88a.run_eq _).trans (by kernel_rfl)
theorem f88ah0_eq (x0 : (List Item)) (x1 : Int) (x2 : Int) (x3 : Bytes) : f88ah0 x0 x1 x2 x3 = (cond (decide (x2 < x1)) (cond (decide ((0 : Int) ≤ x2)) (cond (decide (x2 < ((List.length x0 : Nat) : Int))) (cond (t90_0 (List.getD x0 (Int.toNat x2) (Tc.dflt tItem)) x3) (some ⟨[.dat tI x2], [(0, .box [.dat .str x3])]⟩) (f88ah0 x0 x1 (wrap .i64 (x2 + (1 : Int))) x3)) none) none) (some ⟨[.dat tI (-1 : Int)], [(0, .box [.dat .str x3])]⟩)) := hdEq (by kernel_rfl)
theorem f55_run (a0 : (List Item)) (a1 : Bytes) : I55.run ⟨[.dat (.slice tItem) a0, .dat .str a1], []⟩ = (cond (decide (List.length a0 ≤ 1000)) (some ⟨[.dat tI (idxBy (fun o => t90_0 o a1) a0 0)], []⟩) none) := (I55.run_eq _).trans (by kernel_rfl)
noncomputable def f56h0 (x0 : (List Bytes)) (x1 : (List Bytes)) (x2 : Int) (x3 : Int) : Option Fr := I56.hd 0 (mkF 27 [(0, .dat (.slice .str) x0), (5, .dat (.slice .str) x1), (6, .dat tI x2), (7, .dat tI x3)] [])
theorem f56_run (a0 : (List Bytes)) : I56.run ⟨[.dat (.slice .str) a0], []⟩ = (f56h0 a0 a0 ((List.length a0 : Nat) : Int) (0 : Int)) := (I56.run_eq _).trans (by kernel_rfl)
theorem f56h0_eq (x0 : (List Bytes)) (x1 : (List Bytes)) (x2 : Int) (x3 : Int) : f56h0 x0 x1 x2 x3 = (cond (decide (x3 < x2)) (cond (decide ((0 : Int) ≤ x3)) (cond (decide (x3 < ((List.length x1 : Nat) : Int))) (cond (!(keyR (List.getD x1 (Int.toNat x3) (Tc.dflt .str)))) (some ⟨[.dat tI (5 : Int)], []⟩) (cond (decide (x3 > (0 : Int))) (cond (decide ((0 : Int) ≤ (wrap .i64 (x3 - (1 : Int))))) (cond (decide ((wrap .i64 (x3 - (1 : Int))) < ((List.length x0 : Nat) : Int))) (cond (bLess (List.getD x1 (Int.toNat x3) (Tc.dflt .str)) (List.getD x0 (Int.toNat (wrap .i64 (x3 - (1 : Int)))) (Tc.dflt .str)) || (List.getD x1 (Int.toNat x3) (Tc.dflt .str)) == (List.getD x0 (Int.toNat (wrap .i64 (x3 - (1 : Int)))) (Tc.dflt .str))) (some ⟨[.dat tI (7 : Int)], []⟩) (f56h0 x0 x1 x2 (wrap .i64 (x3 + (1 : Int))))) none) none) (f56h0 x0 x1 x2 (wrap .i64 (x3 + (1 : Int)))))) none) none) (some ⟨[.dat tI (0 : Int)], []⟩)) := hdEq (by kernel_rfl)
noncomputable def f17h0 (x0 : (List Item)) (x1 : (List Item)) (x2 : Int) (x3 : Int) : Option Fr := I17.hd 0 (mkF 57 [(0, .dat (.slice tItem) x0), (9, .dat (.slice tItem) x1), (10, .dat tI x2), (11, .dat tI x3)] [])
theorem f17_run (a0 : (List Item)) : I17.run ⟨[.dat (.slice tItem) a0], []⟩ = (cond (decide (((List.length a0 : Nat) : Int) > (60 : Int))) (some ⟨[.dat tI (2 : Int)], []⟩) (f17h0 a0 a0 ((List.length a0 : Nat) : Int) (0 : Int))) := (I17.run_eq _).trans (by kernel_rfl)
theorem f17h0_eq (x0 : (List Item)) (x1 : (List Item)) (x2 : Int) (x3 : Int) : f17h0 x0 x1 x2 x3 = (cond (decide (x3 < x2)) (cond (decide ((0 : Int) ≤ x3)) (cond (decide (x3 < ((List.length x1 : Nat) : Int))) (cond (!(keyR (List.getD x1 (Int.toNat x3) (Tc.dflt tItem)).1)) (some ⟨[.dat tI (5 : Int)], []⟩) (cond (!(keyR (List.getD x1 (Int.toNat x3) (Tc.dflt tItem)).2.1)) (some ⟨[.dat tI (5 : Int)], []⟩) (cond (decide ((0 : Int) ≤ (0 : Int))) (cond (decide ((0 : Int) ≤ x3)) (cond (decide (x3 ≤ ((List.length x0 : Nat) : Int))) (cond (t55_ok (List.drop (Int.toNat (0 : Int)) (List.take (Int.toNat x3) x0)) (List.getD x1 (Int.toNat x3) (Tc.dflt tItem)).1) (cond (decide ((t55_0 (List.drop (Int.toNat (0 : Int)) (List.take (Int.toNat x3) x0)) (List.getD x1 (Int.toNat x3) (Tc.dflt tItem)).1) ≥ (0 : Int))) (some ⟨[.dat tI (6 : Int)], []⟩) (cond (!(inR (List.getD x1 (Int.toNat x3) (Tc.dflt tItem)).2.2.1 (1 : Int) (86400000 : Int))) (some ⟨[.dat tI (1 : Int)], []⟩) (cond (((List.length (List.getD x1 (Int.toNat x3) (Tc.dflt tItem)).2.2.2 : Nat) : Int) == (0 : Int)) (some ⟨[.dat tI (8 : Int)], []⟩) (cond (decide (((List.length (List.getD x1 (Int.toNat x3) (Tc.dflt tItem)).2.2.2 : Nat) : Int) > (12 : Int))) (some ⟨[.dat tI (2 : Int)], []⟩) (cond (decide (List.length (List.getD x1 (Int.toNat x3) (Tc.dflt tItem)).2.2.2 ≤ 1000)) (cond ((risingGo keyR none (List.getD x1 (Int.toNat x3) (Tc.dflt tItem)).2.2.2) != (0 : Int)) (some ⟨[.dat tI (risingGo keyR none (List.getD x1 (Int.toNat x3) (Tc.dflt tItem)).2.2.2)], []⟩) (f17h0 x0 x1 x2 (wrap .i64 (x3 + (1 : Int))))) none))))) none) none) none) none))) none) none) (some ⟨[.dat tI (0 : Int)], []⟩)) := hdEq (by kernel_rfl)
theorem f11_run (a0 : Prgm) : I11.run ⟨[.dat tPrgm a0], []⟩ = (cond ((checkItems keyR a0.1) != (0 : Int)) (some ⟨[.dat tI (checkItems keyR a0.1)], []⟩) (cond (!(inR a0.2.1 (0 : Int) (86400000 : Int))) (some ⟨[.dat tI (1 : Int)], []⟩) (cond (!(inR a0.2.2.1 (0 : Int) (86400000 : Int))) (some ⟨[.dat tI (1 : Int)], []⟩) (cond (!(inR a0.2.2.2.1 (0 : Int) (86400000 : Int))) (some ⟨[.dat tI (1 : Int)], []⟩) (cond (!(inR a0.2.2.2.2 (-1 : Int) (if (-1 : Int) < (wrap .i64 (((List.length a0.1 : Nat) : Int) - (2 : Int))) then (wrap .i64 (((List.length a0.1 : Nat) : Int) - (2 : Int))) else (-1 : Int)))) (some ⟨[.dat tI (1 : Int)], []⟩) (some ⟨[.dat tI (0 : Int)], []⟩)))))) := (I11.run_eq _).trans (by kernel_rfl)
theorem f48_run (a0 : Prgm) (a1 : Int) : I48.run ⟨[.dat tPrgm a0, .dat tI a1], []⟩ = (cond (a1 == a0.2.2.2.2) (some ⟨[.dat tI a0.2.2.2.1], []⟩) (cond (decide ((0 : Int) ≤ a1)) (cond (decide (a1 < ((List.length a0.1 : Nat) : Int))) (cond (decide ((0 : Int) ≤ (wrap .i64 (a1 + (1 : Int))))) (cond (decide ((wrap .i64 (a1 + (1 : Int))) < ((List.length a0.1 : Nat) : Int))) (cond (!((List.getD a0.1 (Int.toNat a1) (Tc.dflt tItem)).2.1 == (List.getD a0.1 (Int.toNat (wrap .i64 (a1 + (1 : Int)))) (Tc.dflt tItem)).2.1)) (some ⟨[.dat tI a0.2.1], []⟩) (some ⟨[.dat tI a0.2.2.1], []⟩)) none) none) none) none)) := (I48.run_eq _).trans (by kernel_rfl)
noncomputable def f15h0 (x0 : Int) (x1 : (List Item)) (x2 : Int) (x3 : Int) (x4 : (List Item)) (x5 : Int) (x6 : Int) (x7 : Int) (x8 : Int) (x9 : (List Timed)) : Option Fr := I15.hd 0 (mkF 45 [(1, .dat tI x0), (2, .ptr 500 0), (5, .slc 501), (9, .dat (.slice tItem) x1), (10, .dat tI x2), (11, .dat tI x3)] [(500, .box [.dat (.slice tItem) x4, .dat tI x5, .dat tI x6, .dat tI x7, .dat tI x8]), (501, .arr tTimed x9)])
theorem f15_run (a0 : Prgm) (a1 : Int) : I15.run ⟨[.dat tPrgm a0, .dat tI a1], []⟩ = (f15h0 a1 a0.1 ((List.length a0.1 : Nat) : Int) (0 : Int) a0.1 a0.2.1 a0.2.2.1 a0.2.2.2.1 a0.2.2.2.2 ([] : List Timed)) := (I15.run_eq _).trans (by kernel_rfl)
theorem f15h0_eq (x0 : Int) (x1 : (List Item)) (x2 : Int) (x3 : Int) (x4 : (List Item)) (x5 : Int) (x6 : Int) (x7 : Int) (x8 : Int) (x9 : (List Timed)) : f15h0 x0 x1 x2 x3 x4 x5 x6 x7 x8 x9 = (cond (decide (x3 < x2)) (cond (decide ((0 : Int) ≤ x3)) (cond (decide (x3 < ((List.length x1 : Nat) : Int))) (cond (decide ((List.length x9 + List.length ([((List.getD x1 (Int.toNat x3) (Tc.dflt tItem)).1, (x0, (wrap .i64 (x0 + (List.getD x1 (Int.toNat x3) (Tc.dflt tItem)).2.2.1))))] : List Timed)) * 32 ≤ 140737488355328)) (cond (decide ((wrap .i64 (x3 + (1 : Int))) < ((List.length x4 : Nat) : Int))) (cond (decide (0 ≤ x3) && decide (x3 + 1 < (List.length (x4, (x5, (x6, (x7, x8)))).1 : Int)) && decide (List.length (x4, (x5, (x6, (x7, x8)))).1 ≤ 1000)) (f15h0 (wrap .i64 ((wrap .i64 (x0 + (List.getD x1 (Int.toNat x3) (Tc.dflt tItem)).2.2.1)) + (behindF (x4, (x5, (x6, (x7, x8)))) x3))) x1 x2 (wrap .i64 (x3 + (1 : Int))) x4 x5 x6 x7 x8 (x9 ++ ([((List.getD x1 (Int.toNat x3) (Tc.dflt tItem)).1, (x0, (wrap .i64 (x0 + (List.getD x1 (Int.toNat x3) (Tc.dflt tItem)).2.2.1))))] : List Timed))) none) (f15h0 (wrap .i64 (x0 + (List.getD x1 (Int.toNat x3) (Tc.dflt tItem)).2.2.1)) x1 x2 (wrap .i64 (x3 + (1 : Int))) x4 x5 x6 x7 x8 (x9 ++ ([((List.getD x1 (Int.toNat x3) (Tc.dflt tItem)).1, (x0, (wrap .i64 (x0 + (List.getD x1 (Int.toNat x3) (Tc.dflt tItem)).2.2.1))))] : List Timed)))) none) none) none) (some ⟨[.slc 0], [(0, .arr tTimed x9)]⟩)) := hdEq (by kernel_rfl)
theorem f13_run (a0 : Prgm) : I13.run ⟨[.dat tPrgm a0], []⟩ = (cond (decide (List.length (a0.1, (a0.2.1, (a0.2.2.1, (a0.2.2.2.1, a0.2.2.2.2)))).1 ≤ 1000)) (cond (((List.length (timGo (a0.1, (a0.2.1, (a0.2.2.1, (a0.2.2.2.1, a0.2.2.2.2)))) 0 (0 : Int) (a0.1, (a0.2.1, (a0.2.2.1, (a0.2.2.2.1, a0.2.2.2.2)))).1) : Nat) : Int) == (0 : Int)) (some ⟨[.dat tI (0 : Int)], []⟩) (cond (decide ((0 : Int) ≤ (wrap .i64 (((List.length (timGo (a0.1, (a0.2.1, (a0.2.2.1, (a0.2.2.2.1, a0.2.2.2.2)))) 0 (0 : Int) (a0.1, (a0.2.1, (a0.2.2.1, (a0.2.2.2.1, a0.2.2.2.2)))).1) : Nat) : Int) - (1 : Int))))) (cond (decide ((wrap .i64 (((List.length (timGo (a0.1, (a0.2.1, (a0.2.2.1, (a0.2.2.2.1, a0.2.2.2.2)))) 0 (0 : Int) (a0.1, (a0.2.1, (a0.2.2.1, (a0.2.2.2.1, a0.2.2.2.2)))).1) : Nat) : Int) - (1 : Int))) < ((List.length (timGo (a0.1, (a0.2.1, (a0.2.2.1, (a0.2.2.2.1, a0.2.2.2.2)))) 0 (0 : Int) (a0.1, (a0.2.1, (a0.2.2.1, (a0.2.2.2.1, a0.2.2.2.2)))).1) : Nat) : Int))) (cond (decide ((Int.toNat (wrap .i64 (((List.length (timGo (a0.1, (a0.2.1, (a0.2.2.1, (a0.2.2.2.1, a0.2.2.2.2)))) 0 (0 : Int) (a0.1, (a0.2.1, (a0.2.2.1, (a0.2.2.2.1, a0.2.2.2.2)))).1) : Nat) : Int) - (1 : Int)))) < List.length (timGo (a0.1, (a0.2.1, (a0.2.2.1, (a0.2.2.2.1, a0.2.2.2.2)))) 0 (0 : Int) (a0.1, (a0.2.1, (a0.2.2.1, (a0.2.2.2.1, a0.2.2.2.2)))).1))) (cond (decide ((Int.toNat (wrap .i64 (((List.length (timGo (a0.1, (a0.2.1, (a0.2.2.1, (a0.2.2.2.1, a0.2.2.2.2)))) 0 (0 : Int) (a0.1, (a0.2.1, (a0.2.2.1, (a0.2.2.2.1, a0.2.2.2.2)))).1) : Nat) : Int) - (1 : Int)))) < List.length (timGo (a0.1, (a0.2.1, (a0.2.2.1, (a0.2.2.2.1, a0.2.2.2.2)))) 0 (0 : Int) (a0.1, (a0.2.1, (a0.2.2.1, (a0.2.2.2.1, a0.2.2.2.2)))).1))) (cond (decide ((Int.toNat (wrap .i64 (((List.length (timGo (a0.1, (a0.2.1, (a0.2.2.1, (a0.2.2.2.1, a0.2.2.2.2)))) 0 (0 : Int) (a0.1, (a0.2.1, (a0.2.2.1, (a0.2.2.2.1, a0.2.2.2.2)))).1) : Nat) : Int) - (1 : Int)))) < List.length (timGo (a0.1, (a0.2.1, (a0.2.2.1, (a0.2.2.2.1, a0.2.2.2.2)))) 0 (0 : Int) (a0.1, (a0.2.1, (a0.2.2.1, (a0.2.2.2.1, a0.2.2.2.2)))).1))) (some ⟨[.dat tI (List.getD (timGo (a0.1, (a0.2.1, (a0.2.2.1, (a0.2.2.2.1, a0.2.2.2.2)))) 0 (0 : Int) (a0.1, (a0.2.1, (a0.2.2.1, (a0.2.2.2.1, a0.2.2.2.2)))).1) (Int.toNat (wrap .i64 (((List.length (timGo (a0.1, (a0.2.1, (a0.2.2.1, (a0.2.2.2.1, a0.2.2.2.2)))) 0 (0 : Int) (a0.1, (a0.2.1, (a0.2.2.1, (a0.2.2.2.1, a0.2.2.2.2)))).1) : Nat) : Int) - (1 : Int)))) (Tc.dflt tTimed)).2.2], []⟩) none) none) none) none) none)) none) := (I13.run_eq _).trans (by kernel_rfl)
theorem f47_run (a0 : Int) : I47.run ⟨[.dat tI a0], []⟩ = (some ⟨[.dat .bool (inR a0 (0 : Int) (345686399999 : Int))], []⟩) := (I47.run_eq _).trans (by kernel_rfl)
theorem f12_run (a0 : Prgm) (a1 : Int) : I12.run ⟨[.dat tPrgm a0, .dat tI a1], []⟩ = (cond (!(t47_0 a1)) (some ⟨[.dat tI (1 : Int)], []⟩) (cond (decide (List.length (a0.1, (a0.2.1, (a0.2.2.1, (a0.2.2.2.1, a0.2.2.2.2)))).1 ≤ 1000)) (cond (decide ((wrap .i64 (a1 + (longR (a0.1, (a0.2.1, (a0.2.2.1, (a0.2.2.2.1, a0.2.2.2.2))))))) > (345686400000 : Int))) (some ⟨[.dat tI (1 : Int)], []⟩) (some ⟨[.dat tI (0 : Int)], []⟩)) none)) := (I12.run_eq _).trans (by kernel_rfl)
noncomputable def f14h0 (x0 : Int) (x1 : Int) (x2 : (List Item)) (x3 : Int) (x4 : Int) (x5 : Int) (x6 : Int) : Option Fr := I14.hd 0 (mkF 36 [(1, .ptr 500 0), (3, .dat tI x0), (4, .dat tI x1)] [(500, .box [.dat (.slice tItem) x2, .dat tI x3, .dat tI x4, .dat tI x5, .dat tI x6])])
theorem f14_run (a0 : Prgm) : I14.run ⟨[.dat tPrgm a0], []⟩ = (f14h0 (0 : Int) (0 : Int) a0.1 a0.2.1 a0.2.2.1 a0.2.2.2.1 a0.2.2.2.2) := (I14.run_eq _).trans (by kernel_rfl)
theorem f14h0_eq (x0 : Int) (x1 : Int) (x2 : (List Item)) (x3 : Int) (x4 : Int) (x5 : Int) (x6 : Int) : f14h0 x0 x1 x2 x3 x4 x5 x6 = (cond (decide ((wrap .i64 (x1 + (1 : Int))) < ((List.length x2 : Nat) : Int))) (cond (x1 != x6) (cond (decide ((0 : Int) ≤ x1)) (cond (decide (x1 < ((List.length x2 : Nat) : Int))) (cond (decide ((0 : Int) ≤ (wrap .i64 (x1 + (1 : Int))))) (cond (decide ((wrap .i64 (x1 + (1 : Int))) < ((List.length x2 : Nat) : Int))) (cond (!((List.getD x2 (Int.toNat x1) (Tc.dflt tItem)).2.1 == (List.getD x2 (Int.toNat (wrap .i64 (x1 + (1 : Int)))) (Tc.dflt tItem)).2.1)) (f14h0 (wrap .i64 (x0 + (1 : Int))) (wrap .i64 (x1 + (1 : Int))) x2 x3 x4 x5 x6) (f14h0 x0 (wrap .i64 (x1 + (1 : Int))) x2 x3 x4 x5 x6)) none) none) none) none) (f14h0 x0 (wrap .i64 (x1 + (1 : Int))) x2 x3 x4 x5 x6)) (some ⟨[.dat tI x0], []⟩)) := hdEq (by kernel_rfl)
noncomputable def f19h0 (x0 : (List Timed)) (x1 : (List Timed)) (x2 : Int) (x3 : Int) : Option Fr := I19.hd 0 (mkF 26 [(0, .dat (.slice tTimed) x0), (1, .dat (.slice tTimed) x1), (12, .dat tI x2), (13, .dat tI x3)] [])
theorem f19_run (a0 : (List Timed)) (a1 : (List Timed)) : I19.run ⟨[.dat (.slice tTimed) a0, .dat (.slice tTimed) a1], []⟩ = (cond (((List.length a0 : Nat) : Int) != ((List.length a1 : Nat) : Int)) (some ⟨[.dat .bool false], []⟩) (f19h0 a0 a1 ((List.length a0 : Nat) : Int) (0 : Int))) := (I19.run_eq _).trans (by kernel_rfl)
theorem f19h0_eq (x0 : (List Timed)) (x1 : (List Timed)) (x2 : Int) (x3 : Int) : f19h0 x0 x1 x2 x3 = (cond (decide (x3 < x2)) (cond (decide ((0 : Int) ≤ x3)) (cond (decide (x3 < ((List.length x0 : Nat) : Int))) (cond (decide ((0 : Int) ≤ x3)) (cond (decide (x3 < ((List.length x1 : Nat) : Int))) (cond (!(Tc.beq tTimed (List.getD x0 (Int.toNat x3) (Tc.dflt tTimed)) (List.getD x1 (Int.toNat x3) (Tc.dflt tTimed)))) (some ⟨[.dat .bool false], []⟩) (f19h0 x0 x1 x2 (wrap .i64 (x3 + (1 : Int))))) none) none) none) none) (some ⟨[.dat .bool true], []⟩)) := hdEq (by kernel_rfl)
theorem f20_run  : I20.run ⟨[], []⟩ = (cond (((longP (([([97], ([112], ((7 : Int), ([[97, 108, 116, 111]] : List Bytes))))] : List Item), ((0 : Int), ((0 : Int), ((0 : Int), (-1 : Int)))))).2) == (0 : Int)) (some ⟨[.dat .bool (((longP (([([97], ([112], ((7 : Int), ([[97, 108, 116, 111]] : List Bytes))))] : List Item), ((0 : Int), ((0 : Int), ((0 : Int), (-1 : Int)))))).1) == (7 : Int))], []⟩) (some ⟨[.dat .bool false], []⟩)) := (I20.run_eq _).trans (by kernel_rfl)
theorem f3_run (a0 : (List Int)) : I3.run ⟨[.dat (.slice tI) a0], []⟩ = (cond (atOk 2000 (0 : Int) && (5 : Int) == 5) (cond (t7_ok (a0) ((aProg a0 (0 : Int) (5 : Int)).1)) (cond ((checkProg keyR (((aProg a0 (0 : Int) (5 : Int)).2).1, (((aProg a0 (0 : Int) (5 : Int)).2).2.1, (((aProg a0 (0 : Int) (5 : Int)).2).2.2.1, (((aProg a0 (0 : Int) (5 : Int)).2).2.2.2.1, ((aProg a0 (0 : Int) (5 : Int)).2).2.2.2.2))))) == (0 : Int)) (cond (decide (List.length (((aProg a0 (0 : Int) (5 : Int)).2).1, (((aProg a0 (0 : Int) (5 : Int)).2).2.1, (((aProg a0 (0 : Int) (5 : Int)).2).2.2.1, (((aProg a0 (0 : Int) (5 : Int)).2).2.2.2.1, ((aProg a0 (0 : Int) (5 : Int)).2).2.2.2.2)))).1 ≤ 1000)) (cond (decide (List.length (((aProg a0 (0 : Int) (5 : Int)).2).1, (((aProg a0 (0 : Int) (5 : Int)).2).2.1, (((aProg a0 (0 : Int) (5 : Int)).2).2.2.1, (((aProg a0 (0 : Int) (5 : Int)).2).2.2.2.1, ((aProg a0 (0 : Int) (5 : Int)).2).2.2.2.2)))).1 ≤ 1000)) (cond (decide (List.length (((aProg a0 (0 : Int) (5 : Int)).2).1, (((aProg a0 (0 : Int) (5 : Int)).2).2.1, (((aProg a0 (0 : Int) (5 : Int)).2).2.2.1, (((aProg a0 (0 : Int) (5 : Int)).2).2.2.2.1, ((aProg a0 (0 : Int) (5 : Int)).2).2.2.2.2)))).1 ≤ 1000)) (cond ((beginF (((aProg a0 (0 : Int) (5 : Int)).2).1, (((aProg a0 (0 : Int) (5 : Int)).2).2.1, (((aProg a0 (0 : Int) (5 : Int)).2).2.2.1, (((aProg a0 (0 : Int) (5 : Int)).2).2.2.2.1, ((aProg a0 (0 : Int) (5 : Int)).2).2.2.2.2)))) (t7_0 (a0) ((aProg a0 (0 : Int) (5 : Int)).1))) == (0 : Int)) (cond (decide (List.length (((aProg a0 (0 : Int) (5 : Int)).2).1, (((aProg a0 (0 : Int) (5 : Int)).2).2.1, (((aProg a0 (0 : Int) (5 : Int)).2).2.2.1, (((aProg a0 (0 : Int) (5 : Int)).2).2.2.2.1, ((aProg a0 (0 : Int) (5 : Int)).2).2.2.2.2)))).1 ≤ 1000)) (cond ((checkItems isKey ((aProg a0 (0 : Int) (5 : Int)).2).1) == (checkItems keyR ((aProg a0 (0 : Int) (5 : Int)).2).1)) (cond ((checkProg isKey (((aProg a0 (0 : Int) (5 : Int)).2).1, (((aProg a0 (0 : Int) (5 : Int)).2).2.1, (((aProg a0 (0 : Int) (5 : Int)).2).2.2.1, (((aProg a0 (0 : Int) (5 : Int)).2).2.2.2.1, ((aProg a0 (0 : Int) (5 : Int)).2).2.2.2.2))))) == (checkProg keyR (((aProg a0 (0 : Int) (5 : Int)).2).1, (((aProg a0 (0 : Int) (5 : Int)).2).2.1, (((aProg a0 (0 : Int) (5 : Int)).2).2.2.1, (((aProg a0 (0 : Int) (5 : Int)).2).2.2.2.1, ((aProg a0 (0 : Int) (5 : Int)).2).2.2.2.2)))))) (cond (((timetable (((aProg a0 (0 : Int) (5 : Int)).2).1, (((aProg a0 (0 : Int) (5 : Int)).2).2.1, (((aProg a0 (0 : Int) (5 : Int)).2).2.2.1, (((aProg a0 (0 : Int) (5 : Int)).2).2.2.2.1, ((aProg a0 (0 : Int) (5 : Int)).2).2.2.2.2)))) (t7_0 (a0) ((aProg a0 (0 : Int) (5 : Int)).1))).2) == (beginF (((aProg a0 (0 : Int) (5 : Int)).2).1, (((aProg a0 (0 : Int) (5 : Int)).2).2.1, (((aProg a0 (0 : Int) (5 : Int)).2).2.2.1, (((aProg a0 (0 : Int) (5 : Int)).2).2.2.2.1, ((aProg a0 (0 : Int) (5 : Int)).2).2.2.2.2)))) (t7_0 (a0) ((aProg a0 (0 : Int) (5 : Int)).1)))) (cond (decide (List.length ((timetable (((aProg a0 (0 : Int) (5 : Int)).2).1, (((aProg a0 (0 : Int) (5 : Int)).2).2.1, (((aProg a0 (0 : Int) (5 : Int)).2).2.2.1, (((aProg a0 (0 : Int) (5 : Int)).2).2.2.2.1, ((aProg a0 (0 : Int) (5 : Int)).2).2.2.2.2)))) (t7_0 (a0) ((aProg a0 (0 : Int) (5 : Int)).1))).1) ≤ 1000)) (cond (((timetable (((aProg a0 (0 : Int) (5 : Int)).2).1, (((aProg a0 (0 : Int) (5 : Int)).2).2.1, (((aProg a0 (0 : Int) (5 : Int)).2).2.2.1, (((aProg a0 (0 : Int) (5 : Int)).2).2.2.2.1, ((aProg a0 (0 : Int) (5 : Int)).2).2.2.2.2)))) (t7_0 (a0) ((aProg a0 (0 : Int) (5 : Int)).1))).1) == (timGo (((aProg a0 (0 : Int) (5 : Int)).2).1, (((aProg a0 (0 : Int) (5 : Int)).2).2.1, (((aProg a0 (0 : Int) (5 : Int)).2).2.2.1, (((aProg a0 (0 : Int) (5 : Int)).2).2.2.2.1, ((aProg a0 (0 : Int) (5 : Int)).2).2.2.2.2)))) 0 (t7_0 (a0) ((aProg a0 (0 : Int) (5 : Int)).1)) (((aProg a0 (0 : Int) (5 : Int)).2).1, (((aProg a0 (0 : Int) (5 : Int)).2).2.1, (((aProg a0 (0 : Int) (5 : Int)).2).2.2.1, (((aProg a0 (0 : Int) (5 : Int)).2).2.2.2.1, ((aProg a0 (0 : Int) (5 : Int)).2).2.2.2.2)))).1)) (cond (((longP (((aProg a0 (0 : Int) (5 : Int)).2).1, (((aProg a0 (0 : Int) (5 : Int)).2).2.1, (((aProg a0 (0 : Int) (5 : Int)).2).2.2.1, (((aProg a0 (0 : Int) (5 : Int)).2).2.2.2.1, ((aProg a0 (0 : Int) (5 : Int)).2).2.2.2.2))))).2) == (checkProg keyR (((aProg a0 (0 : Int) (5 : Int)).2).1, (((aProg a0 (0 : Int) (5 : Int)).2).2.1, (((aProg a0 (0 : Int) (5 : Int)).2).2.2.1, (((aProg a0 (0 : Int) (5 : Int)).2).2.2.2.1, ((aProg a0 (0 : Int) (5 : Int)).2).2.2.2.2)))))) (cond (((longP (((aProg a0 (0 : Int) (5 : Int)).2).1, (((aProg a0 (0 : Int) (5 : Int)).2).2.1, (((aProg a0 (0 : Int) (5 : Int)).2).2.2.1, (((aProg a0 (0 : Int) (5 : Int)).2).2.2.2.1, ((aProg a0 (0 : Int) (5 : Int)).2).2.2.2.2))))).1) == (longR (((aProg a0 (0 : Int) (5 : Int)).2).1, (((aProg a0 (0 : Int) (5 : Int)).2).2.1, (((aProg a0 (0 : Int) (5 : Int)).2).2.2.1, (((aProg a0 (0 : Int) (5 : Int)).2).2.2.2.1, ((aProg a0 (0 : Int) (5 : Int)).2).2.2.2.2)))))) (cond (((changes (((aProg a0 (0 : Int) (5 : Int)).2).1, (((aProg a0 (0 : Int) (5 : Int)).2).2.1, (((aProg a0 (0 : Int) (5 : Int)).2).2.2.1, (((aProg a0 (0 : Int) (5 : Int)).2).2.2.2.1, ((aProg a0 (0 : Int) (5 : Int)).2).2.2.2.2))))).2) == (checkProg keyR (((aProg a0 (0 : Int) (5 : Int)).2).1, (((aProg a0 (0 : Int) (5 : Int)).2).2.1, (((aProg a0 (0 : Int) (5 : Int)).2).2.2.1, (((aProg a0 (0 : Int) (5 : Int)).2).2.2.2.1, ((aProg a0 (0 : Int) (5 : Int)).2).2.2.2.2)))))) (cond (((changes (((aProg a0 (0 : Int) (5 : Int)).2).1, (((aProg a0 (0 : Int) (5 : Int)).2).2.1, (((aProg a0 (0 : Int) (5 : Int)).2).2.2.1, (((aProg a0 (0 : Int) (5 : Int)).2).2.2.2.1, ((aProg a0 (0 : Int) (5 : Int)).2).2.2.2.2))))).1) == (chGo (((aProg a0 (0 : Int) (5 : Int)).2).1, (((aProg a0 (0 : Int) (5 : Int)).2).2.1, (((aProg a0 (0 : Int) (5 : Int)).2).2.2.1, (((aProg a0 (0 : Int) (5 : Int)).2).2.2.2.1, ((aProg a0 (0 : Int) (5 : Int)).2).2.2.2.2)))).2.2.2.2 0 (((aProg a0 (0 : Int) (5 : Int)).2).1, (((aProg a0 (0 : Int) (5 : Int)).2).2.1, (((aProg a0 (0 : Int) (5 : Int)).2).2.2.1, (((aProg a0 (0 : Int) (5 : Int)).2).2.2.2.1, ((aProg a0 (0 : Int) (5 : Int)).2).2.2.2.2)))).1 0)) (some ⟨[.dat .bool true], []⟩) (some ⟨[.dat .bool false], []⟩)) (some ⟨[.dat .bool false], []⟩)) (some ⟨[.dat .bool false], []⟩)) (some ⟨[.dat .bool false], []⟩)) (some ⟨[.dat .bool false], []⟩)) none) (some ⟨[.dat .bool false], []⟩)) (some ⟨[.dat .bool false], []⟩)) (some ⟨[.dat .bool false], []⟩)) none) (cond ((checkItems isKey ((aProg a0 (0 : Int) (5 : Int)).2).1) == (checkItems keyR ((aProg a0 (0 : Int) (5 : Int)).2).1)) (cond ((checkProg isKey (((aProg a0 (0 : Int) (5 : Int)).2).1, (((aProg a0 (0 : Int) (5 : Int)).2).2.1, (((aProg a0 (0 : Int) (5 : Int)).2).2.2.1, (((aProg a0 (0 : Int) (5 : Int)).2).2.2.2.1, ((aProg a0 (0 : Int) (5 : Int)).2).2.2.2.2))))) == (checkProg keyR (((aProg a0 (0 : Int) (5 : Int)).2).1, (((aProg a0 (0 : Int) (5 : Int)).2).2.1, (((aProg a0 (0 : Int) (5 : Int)).2).2.2.1, (((aProg a0 (0 : Int) (5 : Int)).2).2.2.2.1, ((aProg a0 (0 : Int) (5 : Int)).2).2.2.2.2)))))) (cond (((timetable (((aProg a0 (0 : Int) (5 : Int)).2).1, (((aProg a0 (0 : Int) (5 : Int)).2).2.1, (((aProg a0 (0 : Int) (5 : Int)).2).2.2.1, (((aProg a0 (0 : Int) (5 : Int)).2).2.2.2.1, ((aProg a0 (0 : Int) (5 : Int)).2).2.2.2.2)))) (t7_0 (a0) ((aProg a0 (0 : Int) (5 : Int)).1))).2) == (beginF (((aProg a0 (0 : Int) (5 : Int)).2).1, (((aProg a0 (0 : Int) (5 : Int)).2).2.1, (((aProg a0 (0 : Int) (5 : Int)).2).2.2.1, (((aProg a0 (0 : Int) (5 : Int)).2).2.2.2.1, ((aProg a0 (0 : Int) (5 : Int)).2).2.2.2.2)))) (t7_0 (a0) ((aProg a0 (0 : Int) (5 : Int)).1)))) (cond (decide (List.length ((timetable (((aProg a0 (0 : Int) (5 : Int)).2).1, (((aProg a0 (0 : Int) (5 : Int)).2).2.1, (((aProg a0 (0 : Int) (5 : Int)).2).2.2.1, (((aProg a0 (0 : Int) (5 : Int)).2).2.2.2.1, ((aProg a0 (0 : Int) (5 : Int)).2).2.2.2.2)))) (t7_0 (a0) ((aProg a0 (0 : Int) (5 : Int)).1))).1) ≤ 1000)) (cond (((timetable (((aProg a0 (0 : Int) (5 : Int)).2).1, (((aProg a0 (0 : Int) (5 : Int)).2).2.1, (((aProg a0 (0 : Int) (5 : Int)).2).2.2.1, (((aProg a0 (0 : Int) (5 : Int)).2).2.2.2.1, ((aProg a0 (0 : Int) (5 : Int)).2).2.2.2.2)))) (t7_0 (a0) ((aProg a0 (0 : Int) (5 : Int)).1))).1) == ([] : List Timed)) (cond (((longP (((aProg a0 (0 : Int) (5 : Int)).2).1, (((aProg a0 (0 : Int) (5 : Int)).2).2.1, (((aProg a0 (0 : Int) (5 : Int)).2).2.2.1, (((aProg a0 (0 : Int) (5 : Int)).2).2.2.2.1, ((aProg a0 (0 : Int) (5 : Int)).2).2.2.2.2))))).2) == (checkProg keyR (((aProg a0 (0 : Int) (5 : Int)).2).1, (((aProg a0 (0 : Int) (5 : Int)).2).2.1, (((aProg a0 (0 : Int) (5 : Int)).2).2.2.1, (((aProg a0 (0 : Int) (5 : Int)).2).2.2.2.1, ((aProg a0 (0 : Int) (5 : Int)).2).2.2.2.2)))))) (cond (((longP (((aProg a0 (0 : Int) (5 : Int)).2).1, (((aProg a0 (0 : Int) (5 : Int)).2).2.1, (((aProg a0 (0 : Int) (5 : Int)).2).2.2.1, (((aProg a0 (0 : Int) (5 : Int)).2).2.2.2.1, ((aProg a0 (0 : Int) (5 : Int)).2).2.2.2.2))))).1) == (longR (((aProg a0 (0 : Int) (5 : Int)).2).1, (((aProg a0 (0 : Int) (5 : Int)).2).2.1, (((aProg a0 (0 : Int) (5 : Int)).2).2.2.1, (((aProg a0 (0 : Int) (5 : Int)).2).2.2.2.1, ((aProg a0 (0 : Int) (5 : Int)).2).2.2.2.2)))))) (cond (((changes (((aProg a0 (0 : Int) (5 : Int)).2).1, (((aProg a0 (0 : Int) (5 : Int)).2).2.1, (((aProg a0 (0 : Int) (5 : Int)).2).2.2.1, (((aProg a0 (0 : Int) (5 : Int)).2).2.2.2.1, ((aProg a0 (0 : Int) (5 : Int)).2).2.2.2.2))))).2) == (checkProg keyR (((aProg a0 (0 : Int) (5 : Int)).2).1, (((aProg a0 (0 : Int) (5 : Int)).2).2.1, (((aProg a0 (0 : Int) (5 : Int)).2).2.2.1, (((aProg a0 (0 : Int) (5 : Int)).2).2.2.2.1, ((aProg a0 (0 : Int) (5 : Int)).2).2.2.2.2)))))) (cond (((changes (((aProg a0 (0 : Int) (5 : Int)).2).1, (((aProg a0 (0 : Int) (5 : Int)).2).2.1, (((aProg a0 (0 : Int) (5 : Int)).2).2.2.1, (((aProg a0 (0 : Int) (5 : Int)).2).2.2.2.1, ((aProg a0 (0 : Int) (5 : Int)).2).2.2.2.2))))).1) == (chGo (((aProg a0 (0 : Int) (5 : Int)).2).1, (((aProg a0 (0 : Int) (5 : Int)).2).2.1, (((aProg a0 (0 : Int) (5 : Int)).2).2.2.1, (((aProg a0 (0 : Int) (5 : Int)).2).2.2.2.1, ((aProg a0 (0 : Int) (5 : Int)).2).2.2.2.2)))).2.2.2.2 0 (((aProg a0 (0 : Int) (5 : Int)).2).1, (((aProg a0 (0 : Int) (5 : Int)).2).2.1, (((aProg a0 (0 : Int) (5 : Int)).2).2.2.1, (((aProg a0 (0 : Int) (5 : Int)).2).2.2.2.1, ((aProg a0 (0 : Int) (5 : Int)).2).2.2.2.2)))).1 0)) (some ⟨[.dat .bool true], []⟩) (some ⟨[.dat .bool false], []⟩)) (some ⟨[.dat .bool false], []⟩)) (some ⟨[.dat .bool false], []⟩)) (some ⟨[.dat .bool false], []⟩)) (some ⟨[.dat .bool false], []⟩)) none) (some ⟨[.dat .bool false], []⟩)) (some ⟨[.dat .bool false], []⟩)) (some ⟨[.dat .bool false], []⟩))) none) none) none) (cond ((checkProg keyR (((aProg a0 (0 : Int) (5 : Int)).2).1, (((aProg a0 (0 : Int) (5 : Int)).2).2.1, (((aProg a0 (0 : Int) (5 : Int)).2).2.2.1, (((aProg a0 (0 : Int) (5 : Int)).2).2.2.2.1, ((aProg a0 (0 : Int) (5 : Int)).2).2.2.2.2))))) == (0 : Int)) (cond (decide (List.length (((aProg a0 (0 : Int) (5 : Int)).2).1, (((aProg a0 (0 : Int) (5 : Int)).2).2.1, (((aProg a0 (0 : Int) (5 : Int)).2).2.2.1, (((aProg a0 (0 : Int) (5 : Int)).2).2.2.2.1, ((aProg a0 (0 : Int) (5 : Int)).2).2.2.2.2)))).1 ≤ 1000)) (cond ((checkItems isKey ((aProg a0 (0 : Int) (5 : Int)).2).1) == (checkItems keyR ((aProg a0 (0 : Int) (5 : Int)).2).1)) (cond ((checkProg isKey (((aProg a0 (0 : Int) (5 : Int)).2).1, (((aProg a0 (0 : Int) (5 : Int)).2).2.1, (((aProg a0 (0 : Int) (5 : Int)).2).2.2.1, (((aProg a0 (0 : Int) (5 : Int)).2).2.2.2.1, ((aProg a0 (0 : Int) (5 : Int)).2).2.2.2.2))))) == (checkProg keyR (((aProg a0 (0 : Int) (5 : Int)).2).1, (((aProg a0 (0 : Int) (5 : Int)).2).2.1, (((aProg a0 (0 : Int) (5 : Int)).2).2.2.1, (((aProg a0 (0 : Int) (5 : Int)).2).2.2.2.1, ((aProg a0 (0 : Int) (5 : Int)).2).2.2.2.2)))))) (cond (((timetable (((aProg a0 (0 : Int) (5 : Int)).2).1, (((aProg a0 (0 : Int) (5 : Int)).2).2.1, (((aProg a0 (0 : Int) (5 : Int)).2).2.2.1, (((aProg a0 (0 : Int) (5 : Int)).2).2.2.2.1, ((aProg a0 (0 : Int) (5 : Int)).2).2.2.2.2)))) (t7_0 (a0) ((aProg a0 (0 : Int) (5 : Int)).1))).2) == (checkProg keyR (((aProg a0 (0 : Int) (5 : Int)).2).1, (((aProg a0 (0 : Int) (5 : Int)).2).2.1, (((aProg a0 (0 : Int) (5 : Int)).2).2.2.1, (((aProg a0 (0 : Int) (5 : Int)).2).2.2.2.1, ((aProg a0 (0 : Int) (5 : Int)).2).2.2.2.2)))))) (cond (decide (List.length ((timetable (((aProg a0 (0 : Int) (5 : Int)).2).1, (((aProg a0 (0 : Int) (5 : Int)).2).2.1, (((aProg a0 (0 : Int) (5 : Int)).2).2.2.1, (((aProg a0 (0 : Int) (5 : Int)).2).2.2.2.1, ((aProg a0 (0 : Int) (5 : Int)).2).2.2.2.2)))) (t7_0 (a0) ((aProg a0 (0 : Int) (5 : Int)).1))).1) ≤ 1000)) (cond (((timetable (((aProg a0 (0 : Int) (5 : Int)).2).1, (((aProg a0 (0 : Int) (5 : Int)).2).2.1, (((aProg a0 (0 : Int) (5 : Int)).2).2.2.1, (((aProg a0 (0 : Int) (5 : Int)).2).2.2.2.1, ((aProg a0 (0 : Int) (5 : Int)).2).2.2.2.2)))) (t7_0 (a0) ((aProg a0 (0 : Int) (5 : Int)).1))).1) == (timGo (((aProg a0 (0 : Int) (5 : Int)).2).1, (((aProg a0 (0 : Int) (5 : Int)).2).2.1, (((aProg a0 (0 : Int) (5 : Int)).2).2.2.1, (((aProg a0 (0 : Int) (5 : Int)).2).2.2.2.1, ((aProg a0 (0 : Int) (5 : Int)).2).2.2.2.2)))) 0 (t7_0 (a0) ((aProg a0 (0 : Int) (5 : Int)).1)) (((aProg a0 (0 : Int) (5 : Int)).2).1, (((aProg a0 (0 : Int) (5 : Int)).2).2.1, (((aProg a0 (0 : Int) (5 : Int)).2).2.2.1, (((aProg a0 (0 : Int) (5 : Int)).2).2.2.2.1, ((aProg a0 (0 : Int) (5 : Int)).2).2.2.2.2)))).1)) (cond (((longP (((aProg a0 (0 : Int) (5 : Int)).2).1, (((aProg a0 (0 : Int) (5 : Int)).2).2.1, (((aProg a0 (0 : Int) (5 : Int)).2).2.2.1, (((aProg a0 (0 : Int) (5 : Int)).2).2.2.2.1, ((aProg a0 (0 : Int) (5 : Int)).2).2.2.2.2))))).2) == (checkProg keyR (((aProg a0 (0 : Int) (5 : Int)).2).1, (((aProg a0 (0 : Int) (5 : Int)).2).2.1, (((aProg a0 (0 : Int) (5 : Int)).2).2.2.1, (((aProg a0 (0 : Int) (5 : Int)).2).2.2.2.1, ((aProg a0 (0 : Int) (5 : Int)).2).2.2.2.2)))))) (cond (((longP (((aProg a0 (0 : Int) (5 : Int)).2).1, (((aProg a0 (0 : Int) (5 : Int)).2).2.1, (((aProg a0 (0 : Int) (5 : Int)).2).2.2.1, (((aProg a0 (0 : Int) (5 : Int)).2).2.2.2.1, ((aProg a0 (0 : Int) (5 : Int)).2).2.2.2.2))))).1) == (0 : Int)) (cond (((changes (((aProg a0 (0 : Int) (5 : Int)).2).1, (((aProg a0 (0 : Int) (5 : Int)).2).2.1, (((aProg a0 (0 : Int) (5 : Int)).2).2.2.1, (((aProg a0 (0 : Int) (5 : Int)).2).2.2.2.1, ((aProg a0 (0 : Int) (5 : Int)).2).2.2.2.2))))).2) == (checkProg keyR (((aProg a0 (0 : Int) (5 : Int)).2).1, (((aProg a0 (0 : Int) (5 : Int)).2).2.1, (((aProg a0 (0 : Int) (5 : Int)).2).2.2.1, (((aProg a0 (0 : Int) (5 : Int)).2).2.2.2.1, ((aProg a0 (0 : Int) (5 : Int)).2).2.2.2.2)))))) (cond (((changes (((aProg a0 (0 : Int) (5 : Int)).2).1, (((aProg a0 (0 : Int) (5 : Int)).2).2.1, (((aProg a0 (0 : Int) (5 : Int)).2).2.2.1, (((aProg a0 (0 : Int) (5 : Int)).2).2.2.2.1, ((aProg a0 (0 : Int) (5 : Int)).2).2.2.2.2))))).1) == (0 : Int)) (some ⟨[.dat .bool true], []⟩) (some ⟨[.dat .bool false], []⟩)) (some ⟨[.dat .bool false], []⟩)) (some ⟨[.dat .bool false], []⟩)) (some ⟨[.dat .bool false], []⟩)) (some ⟨[.dat .bool false], []⟩)) none) (some ⟨[.dat .bool false], []⟩)) (some ⟨[.dat .bool false], []⟩)) (some ⟨[.dat .bool false], []⟩)) none) (cond ((checkItems isKey ((aProg a0 (0 : Int) (5 : Int)).2).1) == (checkItems keyR ((aProg a0 (0 : Int) (5 : Int)).2).1)) (cond ((checkProg isKey (((aProg a0 (0 : Int) (5 : Int)).2).1, (((aProg a0 (0 : Int) (5 : Int)).2).2.1, (((aProg a0 (0 : Int) (5 : Int)).2).2.2.1, (((aProg a0 (0 : Int) (5 : Int)).2).2.2.2.1, ((aProg a0 (0 : Int) (5 : Int)).2).2.2.2.2))))) == (checkProg keyR (((aProg a0 (0 : Int) (5 : Int)).2).1, (((aProg a0 (0 : Int) (5 : Int)).2).2.1, (((aProg a0 (0 : Int) (5 : Int)).2).2.2.1, (((aProg a0 (0 : Int) (5 : Int)).2).2.2.2.1, ((aProg a0 (0 : Int) (5 : Int)).2).2.2.2.2)))))) (cond (((timetable (((aProg a0 (0 : Int) (5 : Int)).2).1, (((aProg a0 (0 : Int) (5 : Int)).2).2.1, (((aProg a0 (0 : Int) (5 : Int)).2).2.2.1, (((aProg a0 (0 : Int) (5 : Int)).2).2.2.2.1, ((aProg a0 (0 : Int) (5 : Int)).2).2.2.2.2)))) (t7_0 (a0) ((aProg a0 (0 : Int) (5 : Int)).1))).2) == (checkProg keyR (((aProg a0 (0 : Int) (5 : Int)).2).1, (((aProg a0 (0 : Int) (5 : Int)).2).2.1, (((aProg a0 (0 : Int) (5 : Int)).2).2.2.1, (((aProg a0 (0 : Int) (5 : Int)).2).2.2.2.1, ((aProg a0 (0 : Int) (5 : Int)).2).2.2.2.2)))))) (cond (decide (List.length ((timetable (((aProg a0 (0 : Int) (5 : Int)).2).1, (((aProg a0 (0 : Int) (5 : Int)).2).2.1, (((aProg a0 (0 : Int) (5 : Int)).2).2.2.1, (((aProg a0 (0 : Int) (5 : Int)).2).2.2.2.1, ((aProg a0 (0 : Int) (5 : Int)).2).2.2.2.2)))) (t7_0 (a0) ((aProg a0 (0 : Int) (5 : Int)).1))).1) ≤ 1000)) (cond (((timetable (((aProg a0 (0 : Int) (5 : Int)).2).1, (((aProg a0 (0 : Int) (5 : Int)).2).2.1, (((aProg a0 (0 : Int) (5 : Int)).2).2.2.1, (((aProg a0 (0 : Int) (5 : Int)).2).2.2.2.1, ((aProg a0 (0 : Int) (5 : Int)).2).2.2.2.2)))) (t7_0 (a0) ((aProg a0 (0 : Int) (5 : Int)).1))).1) == ([] : List Timed)) (cond (((longP (((aProg a0 (0 : Int) (5 : Int)).2).1, (((aProg a0 (0 : Int) (5 : Int)).2).2.1, (((aProg a0 (0 : Int) (5 : Int)).2).2.2.1, (((aProg a0 (0 : Int) (5 : Int)).2).2.2.2.1, ((aProg a0 (0 : Int) (5 : Int)).2).2.2.2.2))))).2) == (checkProg keyR (((aProg a0 (0 : Int) (5 : Int)).2).1, (((aProg a0 (0 : Int) (5 : Int)).2).2.1, (((aProg a0 (0 : Int) (5 : Int)).2).2.2.1, (((aProg a0 (0 : Int) (5 : Int)).2).2.2.2.1, ((aProg a0 (0 : Int) (5 : Int)).2).2.2.2.2)))))) (cond (((longP (((aProg a0 (0 : Int) (5 : Int)).2).1, (((aProg a0 (0 : Int) (5 : Int)).2).2.1, (((aProg a0 (0 : Int) (5 : Int)).2).2.2.1, (((aProg a0 (0 : Int) (5 : Int)).2).2.2.2.1, ((aProg a0 (0 : Int) (5 : Int)).2).2.2.2.2))))).1) == (0 : Int)) (cond (((changes (((aProg a0 (0 : Int) (5 : Int)).2).1, (((aProg a0 (0 : Int) (5 : Int)).2).2.1, (((aProg a0 (0 : Int) (5 : Int)).2).2.2.1, (((aProg a0 (0 : Int) (5 : Int)).2).2.2.2.1, ((aProg a0 (0 : Int) (5 : Int)).2).2.2.2.2))))).2) == (checkProg keyR (((aProg a0 (0 : Int) (5 : Int)).2).1, (((aProg a0 (0 : Int) (5 : Int)).2).2.1, (((aProg a0 (0 : Int) (5 : Int)).2).2.2.1, (((aProg a0 (0 : Int) (5 : Int)).2).2.2.2.1, ((aProg a0 (0 : Int) (5 : Int)).2).2.2.2.2)))))) (cond (((changes (((aProg a0 (0 : Int) (5 : Int)).2).1, (((aProg a0 (0 : Int) (5 : Int)).2).2.1, (((aProg a0 (0 : Int) (5 : Int)).2).2.2.1, (((aProg a0 (0 : Int) (5 : Int)).2).2.2.2.1, ((aProg a0 (0 : Int) (5 : Int)).2).2.2.2.2))))).1) == (0 : Int)) (some ⟨[.dat .bool true], []⟩) (some ⟨[.dat .bool false], []⟩)) (some ⟨[.dat .bool false], []⟩)) (some ⟨[.dat .bool false], []⟩)) (some ⟨[.dat .bool false], []⟩)) (some ⟨[.dat .bool false], []⟩)) none) (some ⟨[.dat .bool false], []⟩)) (some ⟨[.dat .bool false], []⟩)) (some ⟨[.dat .bool false], []⟩)))) none) none) := (I3.run_eq _).trans (by kernel_rfl)
end Go.Ev.K

set_option linter.unusedVariables false
set_option linter.unusedSimpArgs false
set_option maxRecDepth 100000
namespace Go.Ev.K
open Go Go.Ev Go.Proofs
theorem mo : Tryd.prog.follows .mixedOrders = true := by kernel_rfl
theorem e0 : EnvOk Tryd.prog En0 := env_nil (by kernel_rfl)
def R83 : Prop := ∀ (a0 : Int) (a1 : Int), (true) = true → I83.run ⟨[.dat tI a0, .dat tI a1], []⟩ = some ⟨[.dat tI (below a0 a1)], []⟩
theorem sd83 (hE : EnvOk Tryd.prog En0) (h : R83) : EnvOk Tryd.prog En83 := env_add hE (gen_sound I83 hE mo Tryd.func83 rfl rfl (fun x hx => h x.1 x.2.1 hx))
def R41 : Prop := ∀ (a0 : Int) (L : (List Int)) (at_ : Int), (atOk 1 at_) = true → I41.run ⟨[.ptr 0 0, .dat tI a0], [(0, .box [.dat (.slice tI) L, .dat tI at_])]⟩ = some ⟨[.dat tI (next L at_ a0)], [(0, .box [.dat (.slice tI) (L), .dat tI (nextAt at_)])]⟩
theorem sd41 (hE : EnvOk Tryd.prog En83) (h : R41) : EnvOk Tryd.prog En41 := env_add hE (gen_sound I41 hE mo Tryd.func41 rfl rfl (fun x hx => h x.1 x.2.1 x.2.2.1 hx))
def R29 : Prop := ∀ (a0 : Int) (L : (List Int)) (at_ : Int), (atOk 1 at_) = true → I29.run ⟨[.ptr 0 0, .dat tI a0], [(0, .box [.dat (.slice tI) L, .dat tI at_])]⟩ = some ⟨[.dat .bool (next L at_ a0 == 0)], [(0, .box [.dat (.slice tI) (L), .dat tI (nextAt at_)])]⟩
theorem sd29 (hE : EnvOk Tryd.prog En41) (h : R29) : EnvOk Tryd.prog En29 := env_add hE (gen_sound I29 hE mo Tryd.func29 rfl rfl (fun x hx => h x.1 x.2.1 x.2.2.1 hx))
def R30 : Prop := ∀ (a0 : (List Bytes)) (L : (List Int)) (at_ : Int), (atOk 1 at_ && decide (0 < List.length a0) && decide (List.length a0 ≤ 1000)) = true → I30.run ⟨[.ptr 0 0, .dat (.slice .str) a0], [(0, .box [.dat (.slice tI) L, .dat tI at_])]⟩ = some ⟨[.dat .str (some_ L at_ a0)], [(0, .box [.dat (.slice tI) (L), .dat tI (nextAt at_)])]⟩
theorem sd30 (hE : EnvOk Tryd.prog En29) (h : R30) : EnvOk Tryd.prog En30 := env_add hE (gen_sound I30 hE mo Tryd.func30 rfl rfl (fun x hx => h x.1 x.2.1 x.2.2.1 hx))
def R35 : Prop := ∀ (a0 : (List Int)) (L : (List Int)) (at_ : Int), (atOk 1 at_ && decide (0 < List.length a0) && decide (List.length a0 ≤ 1000)) = true → I35.run ⟨[.ptr 0 0, .dat (.slice tI) a0], [(0, .box [.dat (.slice tI) L, .dat tI at_])]⟩ = some ⟨[.dat tI (pick L at_ a0)], [(0, .box [.dat (.slice tI) (L), .dat tI (nextAt at_)])]⟩
theorem sd35 (hE : EnvOk Tryd.prog En30) (h : R35) : EnvOk Tryd.prog En35 := env_add hE (gen_sound I35 hE mo Tryd.func35 rfl rfl (fun x hx => h x.1 x.2.1 x.2.2.1 hx))
def R40 : Prop := ∀ (a0 : Int) (L : (List Int)) (at_ : Int), (atOk 1000 at_ && decide (0 ≤ a0) && decide (a0 ≤ 5)) = true → I40.run ⟨[.ptr 0 0, .dat tI a0], [(0, .box [.dat (.slice tI) L, .dat tI at_])]⟩ = some ⟨[.agg [.slc 2, .dat tI ((rightP L at_ a0).2.2.1), .dat tI ((rightP L at_ a0).2.2.2.1), .dat tI ((rightP L at_ a0).2.2.2.2.1), .dat tI ((rightP L at_ a0).2.2.2.2.2)]], [(0, .box [.dat (.slice tI) (L), .dat tI ((rightP L at_ a0).1)]), (2, .arr tItem ((rightP L at_ a0).2.1))]⟩
theorem sd40 (hE : EnvOk Tryd.prog En35) (h : R40) : EnvOk Tryd.prog En40 := env_add hE (gen_sound I40 hE mo Tryd.func40 rfl rfl (fun x hx => h x.1 x.2.1 x.2.2.1 hx))
def R31 : Prop := ∀ (a0 : Int) (a1 : Int) (L : (List Int)) (at_ : Int), (atOk 1 at_) = true → I31.run ⟨[.ptr 0 0, .dat tI a0, .dat tI a1], [(0, .box [.dat (.slice tI) L, .dat tI at_])]⟩ = some ⟨[.dat tI (rangeS L at_ a0 a1)], [(0, .box [.dat (.slice tI) (L), .dat tI (rangeAt at_ a0 a1)])]⟩
theorem sd31 (hE : EnvOk Tryd.prog En40) (h : R31) : EnvOk Tryd.prog En31 := env_add hE (gen_sound I31 hE mo Tryd.func31 rfl rfl (fun x hx => h x.1 x.2.1 x.2.2.1 x.2.2.2.1 hx))
def R42 : Prop := ∀ (a0 : Int) (a1 : Int) (L : (List Int)) (at_ : Int), (atOk 8 at_) = true → I42.run ⟨[.ptr 0 0, .dat tI a0, .dat tI a1], [(0, .box [.dat (.slice tI) L, .dat tI at_])]⟩ = some ⟨[.dat tI ((oddS L at_ a0 a1).2)], [(0, .box [.dat (.slice tI) (L), .dat tI ((oddS L at_ a0 a1).1)])]⟩
theorem sd42 (hE : EnvOk Tryd.prog En31) (h : R42) : EnvOk Tryd.prog En42 := env_add hE (gen_sound I42 hE mo Tryd.func42 rfl rfl (fun x hx => h x.1 x.2.1 x.2.2.1 x.2.2.2.1 hx))
def R43 : Prop := ∀ (a0 : (List Bytes)), (decide (List.length a0 ≤ 1000)) = true → I43.run ⟨[.dat (.slice .str) a0], []⟩ = some ⟨[.slc 0], [(0, .arr .str (a0))]⟩
theorem sd43 (hE : EnvOk Tryd.prog En42) (h : R43) : EnvOk Tryd.prog En43 := env_add hE (gen_sound I43 hE mo Tryd.func43 rfl rfl (fun x hx => h x.1 hx))
def R6 : Prop := ∀ (a0 : Int) (L : (List Int)) (at_ : Int), (atOk 2000 at_ && a0 == 5) = true → I6.run ⟨[.ptr 0 0, .dat tI a0], [(0, .box [.dat (.slice tI) L, .dat tI at_])]⟩ = some ⟨[.dat tPrgm ((aProg L at_ a0).2)], [(0, .box [.dat (.slice tI) (L), .dat tI ((aProg L at_ a0).1)])]⟩
theorem sd6 (hE : EnvOk Tryd.prog En43) (h : R6) : EnvOk Tryd.prog En6 := env_add hE (gen_sound I6 hE mo Tryd.func6 rfl rfl (fun x hx => h x.1 x.2.1 x.2.2.1 hx))
def R7 : Prop := ∀ (L : (List Int)) (at_ : Int), (t7_ok L at_) = true → I7.run ⟨[.ptr 0 0], [(0, .box [.dat (.slice tI) L, .dat tI at_])]⟩ = some ⟨[.dat tI (t7_0 L at_)], [(0, .box [.dat (.slice tI) (t7_1 L at_), .dat tI (t7_2 L at_)])]⟩
theorem sd7 (hE : EnvOk Tryd.prog En6) (h : R7) : EnvOk Tryd.prog En7 := env_add hE (gen_sound I7 hE mo Tryd.func7 rfl rfl (fun x hx => h x.1 x.2.1 hx))
theorem rt7 (L : (List Int)) (at_ : Int) : I7.run ⟨[.ptr 0 0], [(0, .box [.dat (.slice tI) L, .dat tI at_])]⟩ = (t7 L at_).map (fun r => ⟨[.dat tI r.1], [(0, .box [.dat (.slice tI) r.2.1, .dat tI r.2.2])]⟩) := by
  rw [f7_run L at_]
  unfold t7
  simp only [omap_cond, Option.map_some, Option.map_none]
theorem r7 : R7 := by
  intro L at_ h
  obtain ⟨r, hr⟩ := Option.isSome_iff_exists.1 h
  rw [rt7, hr]
  unfold t7_0 t7_1 t7_2
  rw [hr]; rfl
def R51 : Prop := ∀ (a0 : Item) (k : Bytes) (pl : Bytes) (lg : Int) (ps : (List Bytes)), (true) = true → I51.run ⟨[.dat tItem a0, .ptr 0 0], [(0, .box [.dat .str k, .dat .str pl, .dat tI lg, .dat (.slice .str) ps])]⟩ = some ⟨[.dat .bool (t51_0 a0 k pl lg ps)], [(0, .box [.dat .str k, .dat .str pl, .dat tI lg, .dat (.slice .str) ps])]⟩
theorem sd51 (hE : EnvOk Tryd.prog En7) (h : R51) : EnvOk Tryd.prog En51 := env_add hE (gen_sound I51 hE mo Tryd.func51 rfl rfl (fun x hx => h x.1 x.2.1 x.2.2.1 x.2.2.2.1 x.2.2.2.2.1 hx))
theorem r51 : R51 := by
  intro a0 k pl lg ps _
  exact f51_run a0 k pl lg ps
def R88 : Prop := ∀ (a0 : (List Item)) (k : Bytes) (pl : Bytes) (lg : Int) (ps : (List Bytes)), (decide (List.length a0 ≤ 1000)) = true → I88.run ⟨[.dat (.slice tItem) a0, .clos 51 [.ptr 0 0]], [(0, .box [.dat .str k, .dat .str pl, .dat tI lg, .dat (.slice .str) ps])]⟩ = some ⟨[.dat tI (idxBy (fun o => t51_0 o k pl lg ps) a0 0)], [(0, .box [.dat .str (k), .dat .str (pl), .dat tI (lg), .dat (.slice .str) (ps)])]⟩
theorem sd88 (hE : EnvOk Tryd.prog En51) (h : R88) : EnvOk Tryd.prog En88 := env_add hE (gen_sound I88 hE mo Tryd.func88 rfl rfl (fun x hx => h x.1 x.2.1 x.2.2.1 x.2.2.2.1 x.2.2.2.2.1 hx))
def R50 : Prop := ∀ (a0 : (List Item)) (k : Bytes) (pl : Bytes) (lg : Int) (ps : (List Bytes)), (t50_ok a0 k pl lg ps) = true → I50.run ⟨[.dat (.slice tItem) a0, .clos 51 [.ptr 0 0]], [(0, .box [.dat .str k, .dat .str pl, .dat tI lg, .dat (.slice .str) ps])]⟩ = some ⟨[.dat .bool (t50_0 a0 k pl lg ps)], [(0, .box [.dat .str (t50_1 a0 k pl lg ps), .dat .str (t50_2 a0 k pl lg ps), .dat tI (t50_3 a0 k pl lg ps), .dat (.slice .str) (t50_4 a0 k pl lg ps)])]⟩
theorem sd50 (hE : EnvOk Tryd.prog En88) (h : R50) : EnvOk Tryd.prog En50 := env_add hE (gen_sound I50 hE mo Tryd.func50 rfl rfl (fun x hx => h x.1 x.2.1 x.2.2.1 x.2.2.2.1 x.2.2.2.2.1 hx))
theorem rt50 (a0 : (List Item)) (k : Bytes) (pl : Bytes) (lg : Int) (ps : (List Bytes)) : I50.run ⟨[.dat (.slice tItem) a0, .clos 51 [.ptr 0 0]], [(0, .box [.dat .str k, .dat .str pl, .dat tI lg, .dat (.slice .str) ps])]⟩ = (t50 a0 k pl lg ps).map (fun r => ⟨[.dat .bool r.1], [(0, .box [.dat .str r.2.1, .dat .str r.2.2.1, .dat tI r.2.2.2.1, .dat (.slice .str) r.2.2.2.2])]⟩) := by
  rw [f50_run a0 k pl lg ps]
  unfold t50
  simp only [omap_cond, Option.map_some, Option.map_none]
theorem r50 : R50 := by
  intro a0 k pl lg ps h
  obtain ⟨r, hr⟩ := Option.isSome_iff_exists.1 h
  rw [rt50, hr]
  unfold t50_0 t50_1 t50_2 t50_3 t50_4
  rw [hr]; rfl
def R86 : Prop := Sound Tryd.prog En0.gl 86 S86 ∧ Enters Tryd.prog 86
theorem sd86 (hE : EnvOk Tryd.prog En50) (h : R86) : EnvOk Tryd.prog En86 := env_add hE (h)
def R87 : Prop := Sound Tryd.prog En0.gl 87 S87 ∧ Enters Tryd.prog 87
theorem sd87 (hE : EnvOk Tryd.prog En86) (h : R87) : EnvOk Tryd.prog En87 := env_add hE (h)
def R49 : Prop := ∀ (a0 : Bytes), (true) = true → I49.run ⟨[.dat .str a0], []⟩ = some ⟨[.dat .bool (isKey a0)], []⟩
theorem sd49 (hE : EnvOk Tryd.prog En87) (h : R49) : EnvOk Tryd.prog En49 := env_add hE (gen_sound I49 hE mo Tryd.func49 rfl rfl (fun x hx => h x.1 hx))
def R52 : Prop := ∀ (a0 : Int) (a1 : Int) (a2 : Int), (true) = true → I52.run ⟨[.dat tI a0, .dat tI a1, .dat tI a2], []⟩ = some ⟨[.dat .bool (outside a0 a1 a2)], []⟩
theorem sd52 (hE : EnvOk Tryd.prog En49) (h : R52) : EnvOk Tryd.prog En52 := env_add hE (gen_sound I52 hE mo Tryd.func52 rfl rfl (fun x hx => h x.1 x.2.1 x.2.2.1 hx))
def R53 : Prop := ∀ (a0 : (List Bytes)), (true) = true → I53.run ⟨[.dat (.slice .str) a0], []⟩ = some ⟨[.dat tI (partsF isKey a0)], []⟩
theorem sd53 (hE : EnvOk Tryd.prog En52) (h : R53) : EnvOk Tryd.prog En53 := env_add hE (gen_sound I53 hE mo Tryd.func53 rfl rfl (fun x hx => h x.1 hx))
def R16 : Prop := ∀ (a0 : (List Item)), (true) = true → I16.run ⟨[.dat (.slice tItem) a0], []⟩ = some ⟨[.dat tI (checkItems isKey a0)], []⟩
theorem sd16 (hE : EnvOk Tryd.prog En53) (h : R16) : EnvOk Tryd.prog En16 := env_add hE (gen_sound I16 hE mo Tryd.func16 rfl rfl (fun x hx => h x.1 hx))
def R18 : Prop := ∀ (a0 : Prgm), (true) = true → I18.run ⟨[.dat tPrgm a0], []⟩ = some ⟨[.dat tI (checkProg isKey a0)], []⟩
theorem sd18 (hE : EnvOk Tryd.prog En16) (h : R18) : EnvOk Tryd.prog En18 := env_add hE (gen_sound I18 hE mo Tryd.func18 rfl rfl (fun x hx => h x.1 hx))
def R74 : Prop := ∀ (a0 : Prgm) (a1 : Item) (a2 : Item), (true) = true → I74.run ⟨[.dat tPrgm a0, .dat tItem a1, .dat tItem a2], []⟩ = some ⟨[.dat tI (t74_0 a0 a1 a2)], []⟩
theorem sd74 (hE : EnvOk Tryd.prog En18) (h : R74) : EnvOk Tryd.prog En74 := env_add hE (gen_sound I74 hE mo Tryd.func74 rfl rfl (fun x hx => h x.1 x.2.1 x.2.2.1 hx))
theorem r74 : R74 := by
  intro a0 a1 a2 _
  rw [f74_run a0 a1 a2]
  unfold t74_0 t74
  cases h2 : (!(a1.2.1 == a2.2.1)) with
  | true =>
    simp only [cond_true]
    all_goals rfl
  | false =>
    simp only [cond_false]
    all_goals rfl
def R85 : Prop := ∀ (a0 : Prgm) (a1 : Int), (decide (0 ≤ a1) && decide (a1 + 1 < (List.length a0.1 : Int)) && decide (List.length a0.1 ≤ 1000)) = true → I85.run ⟨[.dat tPrgm a0, .dat tI a1], []⟩ = some ⟨[.dat tI (behindF a0 a1)], []⟩
theorem sd85 (hE : EnvOk Tryd.prog En74) (h : R85) : EnvOk Tryd.prog En85 := env_add hE (gen_sound I85 hE mo Tryd.func85 rfl rfl (fun x hx => h x.1 x.2.1 hx))
def R45 : Prop := ∀ (a0 : Prgm), (decide (List.length a0.1 ≤ 1000)) = true → I45.run ⟨[.dat tPrgm a0], []⟩ = some ⟨[.slc 0, .dat tI ((begGo a0 0 0 a0.1).2)], [(0, .arr tI ((begGo a0 0 0 a0.1).1))]⟩
theorem sd45 (hE : EnvOk Tryd.prog En85) (h : R45) : EnvOk Tryd.prog En45 := env_add hE (gen_sound I45 hE mo Tryd.func45 rfl rfl (fun x hx => h x.1 hx))
def R84 : Prop := ∀ (a0 : Int), (true) = true → I84.run ⟨[.dat tI a0], []⟩ = some ⟨[.dat .bool (t84_0 a0)], []⟩
theorem sd84 (hE : EnvOk Tryd.prog En45) (h : R84) : EnvOk Tryd.prog En84 := env_add hE (gen_sound I84 hE mo Tryd.func84 rfl rfl (fun x hx => h x.1 hx))
theorem r84 : R84 := by
  intro a0 _
  exact f84_run a0
def R44 : Prop := ∀ (a0 : Prgm) (a1 : Int), (true) = true → I44.run ⟨[.dat tPrgm a0, .dat tI a1], []⟩ = some ⟨[.dat tI (fromF a0 a1)], []⟩
theorem sd44 (hE : EnvOk Tryd.prog En84) (h : R44) : EnvOk Tryd.prog En44 := env_add hE (gen_sound I44 hE mo Tryd.func44 rfl rfl (fun x hx => h x.1 x.2.1 hx))
def R8 : Prop := ∀ (a0 : Prgm) (a1 : Int), (true) = true → I8.run ⟨[.dat tPrgm a0, .dat tI a1], []⟩ = some ⟨[.slc 0, .dat tI ((timetable a0 a1).2)], [(0, .arr tTimed ((timetable a0 a1).1))]⟩
theorem sd8 (hE : EnvOk Tryd.prog En44) (h : R8) : EnvOk Tryd.prog En8 := env_add hE (gen_sound I8 hE mo Tryd.func8 rfl rfl (fun x hx => h x.1 x.2.1 hx))
def R9 : Prop := ∀ (a0 : Prgm), (true) = true → I9.run ⟨[.dat tPrgm a0], []⟩ = some ⟨[.dat tI ((longP a0).1), .dat tI ((longP a0).2)], []⟩
theorem sd9 (hE : EnvOk Tryd.prog En8) (h : R9) : EnvOk Tryd.prog En9 := env_add hE (gen_sound I9 hE mo Tryd.func9 rfl rfl (fun x hx => h x.1 hx))
def R10 : Prop := ∀ (a0 : Prgm), (true) = true → I10.run ⟨[.dat tPrgm a0], []⟩ = some ⟨[.dat tI ((changes a0).1), .dat tI ((changes a0).2)], []⟩
theorem sd10 (hE : EnvOk Tryd.prog En9) (h : R10) : EnvOk Tryd.prog En10 := env_add hE (gen_sound I10 hE mo Tryd.func10 rfl rfl (fun x hx => h x.1 hx))
def R46 : Prop := ∀ (a0 : Int) (a1 : Int) (a2 : Int), (true) = true → I46.run ⟨[.dat tI a0, .dat tI a1, .dat tI a2], []⟩ = some ⟨[.dat .bool (inR a0 a1 a2)], []⟩
theorem sd46 (hE : EnvOk Tryd.prog En10) (h : R46) : EnvOk Tryd.prog En46 := env_add hE (gen_sound I46 hE mo Tryd.func46 rfl rfl (fun x hx => h x.1 x.2.1 x.2.2.1 hx))
def R89 : Prop := ∀ (a0 : Bytes) (a1 : Bytes), (decide (List.length a0 ≤ 1000000)) = true → I89.run ⟨[.dat .str a0, .dat .str a1], []⟩ = some ⟨[.dat .bool (onlyB a0 a1)], []⟩
theorem sd89 (hE : EnvOk Tryd.prog En46) (h : R89) : EnvOk Tryd.prog En89 := env_add hE (gen_sound I89 hE mo Tryd.func89 rfl rfl (fun x hx => h x.1 x.2.1 hx))
def R54 : Prop := ∀ (a0 : Bytes), (true) = true → I54.run ⟨[.dat .str a0], []⟩ = some ⟨[.dat .bool (keyR a0)], []⟩
theorem sd54 (hE : EnvOk Tryd.prog En89) (h : R54) : EnvOk Tryd.prog En54 := env_add hE (gen_sound I54 hE mo Tryd.func54 rfl rfl (fun x hx => h x.1 hx))
def R90 : Prop := ∀ (a0 : Item) (k : Bytes), (true) = true → I90.run ⟨[.dat tItem a0, .ptr 0 0], [(0, .box [.dat .str k])]⟩ = some ⟨[.dat .bool (t90_0 a0 k)], [(0, .box [.dat .str k])]⟩
theorem sd90 (hE : EnvOk Tryd.prog En54) (h : R90) : EnvOk Tryd.prog En90 := env_add hE (gen_sound I90 hE mo Tryd.func90 rfl rfl (fun x hx => h x.1 x.2.1 hx))
theorem r90 : R90 := by
  intro a0 k _
  exact f90_run a0 k
def R88a : Prop := ∀ (a0 : (List Item)) (k : Bytes), (decide (List.length a0 ≤ 1000)) = true → I88a.run ⟨[.dat (.slice tItem) a0, .clos 90 [.ptr 0 0]], [(0, .box [.dat .str k])]⟩ = some ⟨[.dat tI (idxBy (fun o => t90_0 o k) a0 0)], [(0, .box [.dat .str (k)])]⟩
theorem sd88a (hE : EnvOk Tryd.prog En90) (h : R88a) : EnvOk Tryd.prog En88a := env_or hE rfl (gen_sound I88a hE mo Tryd.func88 rfl rfl (fun x hx => h x.1 x.2.1 hx))
def R55 : Prop := ∀ (a0 : (List Item)) (a1 : Bytes), (t55_ok a0 a1) = true → I55.run ⟨[.dat (.slice tItem) a0, .dat .str a1], []⟩ = some ⟨[.dat tI (t55_0 a0 a1)], []⟩
theorem sd55 (hE : EnvOk Tryd.prog En88a) (h : R55) : EnvOk Tryd.prog En55 := env_add hE (gen_sound I55 hE mo Tryd.func55 rfl rfl (fun x hx => h x.1 x.2.1 hx))
theorem rt55 (a0 : (List Item)) (a1 : Bytes) : I55.run ⟨[.dat (.slice tItem) a0, .dat .str a1], []⟩ = (t55 a0 a1).map (fun r => ⟨[.dat tI r], []⟩) := by
  rw [f55_run a0 a1]
  unfold t55
  simp only [omap_cond, Option.map_some, Option.map_none]
theorem r55 : R55 := by
  intro a0 a1 h
  obtain ⟨r, hr⟩ := Option.isSome_iff_exists.1 h
  rw [rt55, hr]
  unfold t55_0
  rw [hr]; rfl
def R56 : Prop := ∀ (a0 : (List Bytes)), (decide (List.length a0 ≤ 1000)) = true → I56.run ⟨[.dat (.slice .str) a0], []⟩ = some ⟨[.dat tI (risingGo keyR none a0)], []⟩
theorem sd56 (hE : EnvOk Tryd.prog En55) (h : R56) : EnvOk Tryd.prog En56 := env_add hE (gen_sound I56 hE mo Tryd.func56 rfl rfl (fun x hx => h x.1 hx))
def R17 : Prop := ∀ (a0 : (List Item)), (true) = true → I17.run ⟨[.dat (.slice tItem) a0], []⟩ = some ⟨[.dat tI (checkItems keyR a0)], []⟩
theorem sd17 (hE : EnvOk Tryd.prog En56) (h : R17) : EnvOk Tryd.prog En17 := env_add hE (gen_sound I17 hE mo Tryd.func17 rfl rfl (fun x hx => h x.1 hx))
def R11 : Prop := ∀ (a0 : Prgm), (true) = true → I11.run ⟨[.dat tPrgm a0], []⟩ = some ⟨[.dat tI (checkProg keyR a0)], []⟩
theorem sd11 (hE : EnvOk Tryd.prog En17) (h : R11) : EnvOk Tryd.prog En11 := env_add hE (gen_sound I11 hE mo Tryd.func11 rfl rfl (fun x hx => h x.1 hx))
def R48 : Prop := ∀ (a0 : Prgm) (a1 : Int), (decide (0 ≤ a1) && decide (a1 + 1 < (List.length a0.1 : Int)) && decide (List.length a0.1 ≤ 1000)) = true → I48.run ⟨[.dat tPrgm a0, .dat tI a1], []⟩ = some ⟨[.dat tI (behindF a0 a1)], []⟩
theorem sd48 (hE : EnvOk Tryd.prog En11) (h : R48) : EnvOk Tryd.prog En48 := env_add hE (gen_sound I48 hE mo Tryd.func48 rfl rfl (fun x hx => h x.1 x.2.1 hx))
def R15 : Prop := ∀ (a0 : Prgm) (a1 : Int), (decide (List.length a0.1 ≤ 1000)) = true → I15.run ⟨[.dat tPrgm a0, .dat tI a1], []⟩ = some ⟨[.slc 0], [(0, .arr tTimed (timGo a0 0 a1 a0.1))]⟩
theorem sd15 (hE : EnvOk Tryd.prog En48) (h : R15) : EnvOk Tryd.prog En15 := env_add hE (gen_sound I15 hE mo Tryd.func15 rfl rfl (fun x hx => h x.1 x.2.1 hx))
def R13 : Prop := ∀ (a0 : Prgm), (decide (List.length a0.1 ≤ 1000)) = true → I13.run ⟨[.dat tPrgm a0], []⟩ = some ⟨[.dat tI (longR a0)], []⟩
theorem sd13 (hE : EnvOk Tryd.prog En15) (h : R13) : EnvOk Tryd.prog En13 := env_add hE (gen_sound I13 hE mo Tryd.func13 rfl rfl (fun x hx => h x.1 hx))
def R47 : Prop := ∀ (a0 : Int), (true) = true → I47.run ⟨[.dat tI a0], []⟩ = some ⟨[.dat .bool (t47_0 a0)], []⟩
theorem sd47 (hE : EnvOk Tryd.prog En13) (h : R47) : EnvOk Tryd.prog En47 := env_add hE (gen_sound I47 hE mo Tryd.func47 rfl rfl (fun x hx => h x.1 hx))
theorem r47 : R47 := by
  intro a0 _
  exact f47_run a0
def R12 : Prop := ∀ (a0 : Prgm) (a1 : Int), (decide (List.length a0.1 ≤ 1000)) = true → I12.run ⟨[.dat tPrgm a0, .dat tI a1], []⟩ = some ⟨[.dat tI (beginF a0 a1)], []⟩
theorem sd12 (hE : EnvOk Tryd.prog En47) (h : R12) : EnvOk Tryd.prog En12 := env_add hE (gen_sound I12 hE mo Tryd.func12 rfl rfl (fun x hx => h x.1 x.2.1 hx))
def R14 : Prop := ∀ (a0 : Prgm), (decide (List.length a0.1 ≤ 1000)) = true → I14.run ⟨[.dat tPrgm a0], []⟩ = some ⟨[.dat tI (chGo a0.2.2.2.2 0 a0.1 0)], []⟩
theorem sd14 (hE : EnvOk Tryd.prog En12) (h : R14) : EnvOk Tryd.prog En14 := env_add hE (gen_sound I14 hE mo Tryd.func14 rfl rfl (fun x hx => h x.1 hx))
def R19 : Prop := ∀ (a0 : (List Timed)) (a1 : (List Timed)), (decide (List.length a0 ≤ 1000)) = true → I19.run ⟨[.dat (.slice tTimed) a0, .dat (.slice tTimed) a1], []⟩ = some ⟨[.dat .bool (a0 == a1)], []⟩
theorem sd19 (hE : EnvOk Tryd.prog En14) (h : R19) : EnvOk Tryd.prog En19 := env_add hE (gen_sound I19 hE mo Tryd.func19 rfl rfl (fun x hx => h x.1 x.2.1 hx))
def R20 : Prop := (true) = true → I20.run ⟨[], []⟩ = some ⟨[.dat .bool true], []⟩
theorem sd20 (hE : EnvOk Tryd.prog En19) (h : R20) : EnvOk Tryd.prog En20 := env_add hE (gen_sound I20 hE mo Tryd.func20 rfl rfl (fun x hx => h  hx))
def R3 : Prop := ∀ (a0 : (List Int)), (true) = true → I3.run ⟨[.dat (.slice tI) a0], []⟩ = some ⟨[.dat .bool true], []⟩
theorem law (hE : EnvOk Tryd.prog En20) (h : R3) : Sound Tryd.prog En20.gl 3 S3 := And.left (b := Enters Tryd.prog 3) (gen_sound I3 hE mo Tryd.func3 rfl rfl (fun x hx => h x.1 hx))
end Go.Ev.K

set_option linter.unusedVariables false
set_option linter.unusedSimpArgs false
namespace Go.Ev.K
open Go Go.Ev Go.Proofs
theorem r83 : R83 := by
  intro a0 a1 _
  rw [f83_run]
  unfold below
  by_cases h1 : a1 < 1
  · simp [h1]
  · have h0 : (a1 == 0) = false := by simp; omega
    by_cases h2 : a0.tmod a1 < 0 <;> simp [h1, h0, h2]

theorem atOk_iff {k a : Int} : atOk k a = true ↔ 0 ≤ a ∧ a + k ≤ 1099511627776 := by simp [atOk]

theorem nextAt_eq {k a : Int} (h : atOk k a = true) (hk : 0 ≤ k) : nextAt a = a + 1 := by
  rw [atOk_iff] at h
  unfold nextAt
  exact wrap_in (by omega) (by omega)

theorem r41 : R41 := by
  intro a0 L at_ h
  rw [f41_run]
  have h1 := atOk_iff.1 h
  have e1 : wrap .i64 (at_ + 1) = at_ + 1 := wrap_in (by omega) (by omega)
  have e2 : wrap .i64 (at_ + 1 - 1) = at_ := by rw [wrap_in (by omega) (by omega)]; omega
  unfold next rawNext nextAt
  by_cases h0 : L = []
  · subst h0; simp
  · have hl : 0 < L.length := List.length_pos_iff.2 h0
    have hne : ((L.length : Int) == 0) = false := by simp; omega
    have ht0 : decide ((0 : Int) ≤ Int.tmod at_ L.length) = true := by simp; exact Int.tmod_nonneg _ h1.1
    have ht1 : decide (Int.tmod at_ L.length < L.length) = true := by simp; exact Int.tmod_lt_of_pos _ (by omega)
    simp only [hne, cond_false, e1, e2, ht0, ht1, cond_true]

theorem below_range {x n : Int} (h1 : 1 ≤ n) (h2 : n ≤ 4611686018427387904) : 0 ≤ below x n ∧ below x n < n := by
  unfold below
  have hlt : decide (n < 1) = false := by simp; omega
  have h3 := Int.tmod_lt_of_pos x (show 0 < n by omega)
  have h4 : -n < x.tmod n := Int.lt_tmod_of_pos x (by omega)
  rw [hlt, cond_false]
  by_cases h : x.tmod n < 0
  · rw [condT (by simpa using h), wrap_in (by omega) (by omega)]; omega
  · rw [condF (by simpa using h)]; omega

theorem next_range (L : List Int) (at_ : Int) {n : Int} (h1 : 1 ≤ n) (h2 : n ≤ 4611686018427387904) : 0 ≤ next L at_ n ∧ next L at_ n < n := below_range h1 h2

theorem r29 : R29 := by
  intro a0 L at_ h
  rw [f29_run, h]; rfl

theorem r35 : R35 := by
  intro a0 L at_ h
  simp only [Bool.and_eq_true, decide_eq_true_eq] at h
  obtain ⟨⟨h1, h2⟩, h3⟩ := h
  have hr := next_range L at_ (n := (a0.length : Int)) (by omega) (by omega)
  rw [f35_run, h1]
  have q1 : decide ((0 : Int) ≤ next L at_ a0.length) = true := by simpa using hr.1
  have q2 : decide (next L at_ a0.length < a0.length) = true := by simpa using hr.2
  rw [q1, q2]; rfl

theorem r31 : R31 := by
  intro a0 a1 L at_ h
  rw [f31_run, h]
  unfold rangeS rangeAt
  by_cases hc : a1 < a0 <;> simp [hc]

theorem r42 : R42 := by
  intro a0 a1 L at_ h
  have h1 := atOk_iff.1 h
  rw [f42_run]
  have q1 : atOk 1 at_ = true := atOk_iff.2 (by omega)
  have e1 := nextAt_eq q1 (by omega)
  have q2 : atOk 1 (nextAt at_) = true := atOk_iff.2 (by omega)
  rw [q1, q2]
  unfold oddS
  cases next L at_ 12 == 0 <;> rfl

theorem r52 : R52 := by
  intro a0 a1 a2 _
  rw [f52_run]
  unfold outside
  cases decide (a0 < a1) <;> rfl

theorem r46 : R46 := by
  intro a0 a1 a2 _
  rw [f46_run]
  unfold inR
  cases decide (a1 ≤ a0) <;> rfl

theorem atOk_t {k a : Int} (h1 : 0 ≤ a) (h2 : a + k ≤ 1099511627776) : atOk k a = true := atOk_iff.2 ⟨h1, h2⟩
theorem nextAt_s {a : Int} (h1 : 0 ≤ a) (h2 : a + 1 ≤ 1099511627776) : nextAt a = a + 1 := wrap_in (by omega) (by omega)
theorem rangeAt_s {a lo hi : Int} (h0 : lo ≤ hi) (h1 : 0 ≤ a) (h2 : a + 1 ≤ 1099511627776) : rangeAt a lo hi = a + 1 := by
  unfold rangeAt
  rw [condF (by simp; omega)]; exact nextAt_s h1 h2
theorem rangeS_in (L : List Int) (a : Int) {lo hi : Int} (h : lo ≤ hi) (h1 : -1000000000 ≤ lo) (h2 : hi ≤ 1000000000) : lo ≤ rangeS L a lo hi ∧ rangeS L a lo hi ≤ hi := by
  unfold rangeS
  rw [condF (by simp; omega), wrap_in (x := hi - lo) (by omega) (by omega), wrap_in (x := hi - lo + 1) (by omega) (by omega)]
  have := next_range L a (n := hi - lo + 1) (by omega) (by omega)
  rw [wrap_in (by omega) (by omega)]; omega
theorem oddAt (L : List Int) {a lo hi : Int} (h0 : lo ≤ hi) (h1 : 0 ≤ a) (h2 : a + 2 ≤ 1099511627776) : (oddS L a lo hi).1 = a + 2 := by
  unfold oddS
  cases next L a 12 == 0
  · simp only [cond_false]; rw [nextAt_s h1 (by omega), rangeAt_s h0 (by omega) (by omega)]; omega
  · simp only [cond_true]; rw [nextAt_s h1 (by omega), nextAt_s (by omega) (by omega)]; omega
theorem len_t {n m : Nat} (h : n ≤ m) : decide (n ≤ m) = true := dT h
theorem atOk_and {k a : Int} {p q : Bool} (h1 : 0 ≤ a) (h2 : a + k ≤ 1099511627776) (hp : p = true) (hq : q = true) : (atOk k a && p && q) = true := by
  rw [atOk_t h1 h2, hp, hq]; rfl
theorem bself (n : Int) : (n == n) = true := by simp

theorem r30 : R30 := by
  intro a0 L at_ h
  simp only [Bool.and_eq_true, decide_eq_true_eq] at h
  obtain ⟨⟨h1, h2⟩, h3⟩ := h
  have hr := next_range L at_ (n := (a0.length : Int)) (by omega) (by omega)
  rw [f30_run, h1]
  have q1 : decide ((0 : Int) ≤ next L at_ a0.length) = true := by simpa using hr.1
  have q2 : decide (next L at_ a0.length < a0.length) = true := by simpa using hr.2
  rw [q1, q2]; rfl

theorem r43 : R43 := by
  intro a0 h
  simp only [decide_eq_true_eq] at h
  rw [f43_run, condT (dT (by simp; omega))]
  cases a0 with
  | nil => simp [both_self]
  | cons x l => simp

theorem idxBy_any {α : Type} (p : α → Bool) : ∀ (l : List α) (i : Nat), decide (idxBy p l i ≥ 0) = l.any p
  | [], i => by simp [idxBy]
  | x :: l, i => by
    have ih := idxBy_any p l (i + 1)
    simp only [idxBy, List.any_cons]
    by_cases hx : p x = true
    · simp [hx]
    · have hx : p x = false := by simpa using hx
      simp only [hx, cond_false, Bool.false_or]; exact ih

theorem go88 (xs : List Item) (hb : xs.length ≤ 1000) (k pl : Bytes) (lg : Int) (ps : List Bytes) : ∀ (m i : Nat), i + m = xs.length →
    f88h0 xs xs.length i k pl lg ps = some ⟨[.dat tI (idxBy (fun o => t51_0 o k pl lg ps) (xs.drop i) i)], [(0, .box [.dat .str k, .dat .str pl, .dat tI lg, .dat (.slice .str) ps])]⟩ := by
  intro m
  induction m with
  | zero => intro i hi; rw [f88h0_eq, dlt_not (by omega), dnil (by omega)]; rfl
  | succ m ih =>
    intro i hi
    have hlt : i < xs.length := by omega
    rw [f88h0_eq, dlt hlt, dle0, getN _ _ _ hlt, wsucc (by omega), ih (i + 1) (by omega), dcons hlt]
    simp only [cond_true, idxBy]
    cases t51_0 xs[i] k pl lg ps <;> rfl

theorem r88 : R88 := by
  intro a0 k pl lg ps h
  simp only [decide_eq_true_eq] at h
  rw [f88_run]
  exact go88 a0 h k pl lg ps a0.length 0 (by omega)

theorem go88a (xs : List Item) (hb : xs.length ≤ 1000) (k : Bytes) : ∀ (m i : Nat), i + m = xs.length →
    f88ah0 xs xs.length i k = some ⟨[.dat tI (idxBy (fun o => t90_0 o k) (xs.drop i) i)], [(0, .box [.dat .str k])]⟩ := by
  intro m
  induction m with
  | zero => intro i hi; rw [f88ah0_eq, dlt_not (by omega), dnil (by omega)]; rfl
  | succ m ih =>
    intro i hi
    have hlt : i < xs.length := by omega
    rw [f88ah0_eq, dlt hlt, dle0, getN _ _ _ hlt, wsucc (by omega), ih (i + 1) (by omega), dcons hlt]
    simp only [cond_true, idxBy]
    cases t90_0 xs[i] k <;> rfl

theorem r88a : R88a := by
  intro a0 k h
  simp only [decide_eq_true_eq] at h
  rw [f88a_run]
  exact go88a a0 h k a0.length 0 (by omega)

theorem r49 : R49 := by
  intro a0 _
  rw [f49_run]
  show (cond (!(a0 == [])) (cond (decide ((a0.length : Int) ≤ 40)) (cond (decide ((0 : Int) ≤ 0)) (cond (decide ((0 : Int) < (a0.length : Int))) (cond (decide (indexB smallsB ((a0.getD 0 0).toNat : Int) ≥ 0)) (cond (trimOk a0 keyB) (some (α := Fr) ⟨[.dat .bool (trimB a0 keyB == [])], []⟩) none) (some (α := Fr) ⟨[.dat .bool false], []⟩)) none) none) (some (α := Fr) ⟨[.dat .bool false], []⟩)) (some (α := Fr) ⟨[.dat .bool false], []⟩)) = some (α := Fr) ⟨[.dat .bool (!(a0 == []) && decide ((a0.length : Int) ≤ 40) && decide (indexB smallsB ((a0.getD 0 0).toNat : Int) ≥ 0) && (trimB a0 keyB == []))], []⟩
  generalize hz : decide (indexB smallsB ((a0.getD 0 0).toNat : Int) ≥ 0) = z
  cases h1 : !(a0 == []) with
  | false => rfl
  | true =>
    cases h2 : decide ((a0.length : Int) ≤ 40) with
    | false => rfl
    | true =>
      have h1' : 0 < a0.length := by
        cases a0 with
        | nil => simp at h1
        | cons x l => simp
      have h2' : (a0.length : Int) ≤ 40 := by simpa using h2
      have q : trimOk a0 keyB = true := by
        unfold trimOk
        rw [dT (by omega), show decide (keyB.length ≤ 1000) = true from by decide, show (keyB.all fun b => decide (b.toNat < 128)) = true from by decide]; rfl
      have q0 : decide ((0 : Int) < (a0.length : Int)) = true := dT (by omega)
      simp only [cond_true, q0, Bool.true_and, q, show decide ((0 : Int) ≤ 0) = true from rfl]
      cases z <;> rfl

theorem go53 (xs : List Bytes) (hb : xs.length ≤ 1000) : ∀ (m i : Nat) (prev : Option Bytes), i + m = xs.length → (i = 0 ∧ prev = none ∨ ∃ h : 0 < i ∧ i - 1 < xs.length, prev = some (xs[i - 1]'h.2)) →
    f53h0 xs xs xs.length i = some ⟨[.dat tI (risingGo isKey prev (xs.drop i))], []⟩ := by
  intro m
  induction m with
  | zero => intro i prev hi hp; rw [f53h0_eq, dlt_not (by omega), dnil (by omega)]; rfl
  | succ m ih =>
    intro i prev hi hp
    have hlt : i < xs.length := by omega
    have ih' := ih (i + 1) (some xs[i]) (by omega) (.inr ⟨⟨by omega, by omega⟩, rfl⟩)
    rw [f53h0_eq, dlt hlt, dle0, getN _ _ _ hlt, wsucc (by omega), ih', dcons hlt]
    simp only [cond_true, risingGo]
    cases isKey xs[i] with
    | false => rfl
    | true =>
      simp only [Bool.not_true, cond_false]
      rcases hp with ⟨rfl, rfl⟩ | ⟨⟨h1, h2⟩, rfl⟩
      · rfl
      · have e : wrap .i64 ((i : Int) - 1) = ((i - 1 : Nat) : Int) := by rw [wrap_in (by omega) (by omega)]; omega
        rw [e, dle0, dlt h2, getN _ _ _ h2, condT (dT (by omega))]
        simp only [cond_true, notAfter]
        cases bLess xs[i] xs[i - 1] || xs[i] == xs[i - 1] <;> rfl

theorem r53 : R53 := by
  intro a0 _
  rw [f53_run]
  unfold partsF
  cases h1 : ((a0.length : Int) == 0) with
  | true => rfl
  | false =>
    cases h2 : decide ((a0.length : Int) > 12) with
    | true => rfl
    | false =>
      simp only [cond_false]
      have : ¬ (a0.length : Int) > 12 := by simpa using h2
      exact go53 a0 (by omega) a0.length 0 none (by omega) (.inl ⟨rfl, rfl⟩)

theorem go56 (xs : List Bytes) (hb : xs.length ≤ 1000) : ∀ (m i : Nat) (prev : Option Bytes), i + m = xs.length → (i = 0 ∧ prev = none ∨ ∃ h : 0 < i ∧ i - 1 < xs.length, prev = some (xs[i - 1]'h.2)) →
    f56h0 xs xs xs.length i = some ⟨[.dat tI (risingGo keyR prev (xs.drop i))], []⟩ := by
  intro m
  induction m with
  | zero => intro i prev hi hp; rw [f56h0_eq, dlt_not (by omega), dnil (by omega)]; rfl
  | succ m ih =>
    intro i prev hi hp
    have hlt : i < xs.length := by omega
    have ih' := ih (i + 1) (some xs[i]) (by omega) (.inr ⟨⟨by omega, by omega⟩, rfl⟩)
    rw [f56h0_eq, dlt hlt, dle0, getN _ _ _ hlt, wsucc (by omega), ih', dcons hlt]
    simp only [cond_true, risingGo]
    cases keyR xs[i] with
    | false => rfl
    | true =>
      simp only [Bool.not_true, cond_false]
      rcases hp with ⟨rfl, rfl⟩ | ⟨⟨h1, h2⟩, rfl⟩
      · rfl
      · have e : wrap .i64 ((i : Int) - 1) = ((i - 1 : Nat) : Int) := by rw [wrap_in (by omega) (by omega)]; omega
        rw [e, dle0, dlt h2, getN _ _ _ h2, condT (dT (by omega))]
        simp only [cond_true, notAfter]
        cases bLess xs[i] xs[i - 1] || xs[i] == xs[i - 1] <;> rfl

theorem r56 : R56 := by
  intro a0 h
  simp only [decide_eq_true_eq] at h
  rw [f56_run]
  exact go56 a0 h a0.length 0 none (by omega) (.inl ⟨rfl, rfl⟩)

theorem go89 (xs cs : Bytes) (hb : xs.length ≤ 1000000) : ∀ (m i : Nat), i + m = xs.length → f89h0 xs cs xs.length i = some ⟨[.dat .bool (onlyB (xs.drop i) cs)], []⟩ := by
  intro m
  induction m with
  | zero => intro i hi; rw [f89h0_eq, dlt_not (by omega), dnil (by omega)]; rfl
  | succ m ih =>
    intro i hi
    have hlt : i < xs.length := by omega
    rw [f89h0_eq, dlt hlt, dle0, getN _ _ _ hlt, wsucc (by omega), ih (i + 1) (by omega), dcons hlt]
    simp only [cond_true, onlyB, List.all_cons]
    cases decide (indexB cs ((xs[i].toNat : Nat) : Int) < 0) <;> rfl

theorem r89 : R89 := by
  intro a0 a1 h
  simp only [decide_eq_true_eq] at h
  rw [f89_run]
  exact go89 a0 a1 h a0.length 0 (by omega)

theorem r54 : R54 := by
  intro a0 _
  rw [f54_run]
  unfold keyR
  cases h1 : inR (a0.length : Int) 1 40 with
  | false => rfl
  | true =>
    have h2 : 1 ≤ a0.length ∧ a0.length ≤ 40 := by
      simp only [inR, Bool.and_eq_true, decide_eq_true_eq] at h1; omega
    have e : List.drop (Int.toNat 0) (List.take (Int.toNat 1) a0) = a0.take 1 := rfl
    rw [e, dT (p := (1 : Int) ≤ (a0.length : Int)) (by omega), dT (p := (a0.take 1).length ≤ 1000000) (by rw [List.length_take]; omega), dT (p := a0.length ≤ 1000000) (by omega)]
    simp only [cond_true, Bool.true_and, smallsB, keyB]
    cases onlyB (a0.take 1) _ <;> rfl

end Go.Ev.K

set_option linter.unusedVariables false
set_option linter.unusedSimpArgs false
namespace Go.Ev.K
open Go Go.Ev Go.Proofs
theorem ok55 (l : List Item) (k : Bytes) (h : l.length ≤ 1000) : t55_ok l k = true ∧ t55_0 l k = idxBy (fun o => t90_0 o k) l 0 := by
  unfold t55_ok t55_0 t55
  rw [dT h]; exact ⟨rfl, rfl⟩

theorem okC (l : List Item) (k pl : Bytes) (lg : Int) (ps : List Bytes) (h : l.length ≤ 1000) : t50_ok l k pl lg ps = true ∧
    t50_0 l k pl lg ps = (l.any fun o => o.1 == k) ∧ t50_3 l k pl lg ps = lg ∧ t50_4 l k pl lg ps = ps := by
  unfold t50_ok t50_0 t50_3 t50_4 t50
  rw [dT h]
  refine ⟨rfl, ?_, rfl, rfl⟩
  exact idxBy_any _ l 0

theorem go16 (xs : List Item) (hb : xs.length ≤ 60) : ∀ (m i : Nat), i + m = xs.length →
    f16h0 xs xs xs.length i = some ⟨[.dat tI (itemsGo isKey (xs.take i) (xs.drop i))], []⟩ := by
  intro m
  induction m with
  | zero => intro i hi; rw [f16h0_eq, dlt_not (by omega), dnil (xs := xs) (i := i) (by omega)]; rfl
  | succ m ih =>
    intro i hi
    have hlt : i < xs.length := by omega
    have ih' := ih (i + 1) (by omega)
    have hl : (xs.take i).length ≤ 1000 := by rw [List.length_take]; omega
    rw [List.take_succ_eq_append_getElem hlt] at ih'
    rw [f16h0_eq, dlt hlt, dle0, getN _ _ _ hlt, wsucc (by omega), ih', dcons hlt]
    have e : List.drop (Int.toNat 0) (List.take (Int.toNat (i : Int)) xs) = xs.take i := rfl
    obtain ⟨q1, q2, q3, q4⟩ := okC (xs.take i) xs[i].1 xs[i].2.1 xs[i].2.2.1 xs[i].2.2.2 hl
    rw [e, q1, q2, q3, q4, dT (p := (i : Int) ≤ (xs.length : Int)) (by omega), show decide ((0 : Int) ≤ 0) = true from rfl]
    simp only [cond_true, itemsGo]
    cases isKey xs[i].1 with
    | false => rfl
    | true =>
      cases isKey xs[i].2.1 with
      | false => rfl
      | true =>
        simp only [Bool.not_true, cond_false, Bool.or_false]
        cases (xs.take i).any fun o => o.1 == xs[i].1 with
        | true => rfl
        | false =>
          cases outside xs[i].2.2.1 1 86400000 with
          | true => rfl
          | false =>
            simp only [cond_false]
            cases partsF isKey xs[i].2.2.2 != 0 <;> rfl

theorem r16 : R16 := by
  intro a0 _
  rw [f16_run]
  unfold checkItems
  cases h2 : decide ((a0.length : Int) > 60) with
  | true => rfl
  | false =>
    have : ¬ (a0.length : Int) > 60 := by simpa using h2
    exact go16 a0 (by omega) a0.length 0 (by omega)

theorem outside_in (n lo hi : Int) : outside n lo hi = !inR n lo hi := by
  unfold outside inR
  have h1 : decide (n < lo) = !decide (lo ≤ n) := by
    by_cases h : lo ≤ n
    · have : ¬ n < lo := by omega
      simp [h, this]
    · have : n < lo := by omega
      simp [h, this]
  have h2 : decide (n > hi) = !decide (n ≤ hi) := by
    by_cases h : n ≤ hi
    · have : ¬ n > hi := by omega
      simp [h, this]
    · have : n > hi := by omega
      simp [h, this]
  rw [h1, h2, Bool.not_and]

theorem go17 (xs : List Item) (hb : xs.length ≤ 60) : ∀ (m i : Nat), i + m = xs.length →
    f17h0 xs xs xs.length i = some ⟨[.dat tI (itemsGo keyR (xs.take i) (xs.drop i))], []⟩ := by
  intro m
  induction m with
  | zero => intro i hi; rw [f17h0_eq, dlt_not (by omega), dnil (xs := xs) (i := i) (by omega)]; rfl
  | succ m ih =>
    intro i hi
    have hlt : i < xs.length := by omega
    have ih' := ih (i + 1) (by omega)
    have hl : (xs.take i).length ≤ 1000 := by rw [List.length_take]; omega
    rw [List.take_succ_eq_append_getElem hlt] at ih'
    rw [f17h0_eq, dlt hlt, dle0, getN _ _ _ hlt, wsucc (by omega), ih', dcons hlt]
    have e : List.drop (Int.toNat 0) (List.take (Int.toNat (i : Int)) xs) = xs.take i := rfl
    obtain ⟨q1, q2⟩ := ok55 (xs.take i) xs[i].1 hl
    have q3 : decide (idxBy (fun o => t90_0 o xs[i].1) (xs.take i) 0 ≥ 0) = ((xs.take i).any fun o => o.1 == xs[i].1) := idxBy_any _ _ 0
    rw [e, q1, q2, q3, dT (p := (i : Int) ≤ (xs.length : Int)) (by omega), show decide ((0 : Int) ≤ 0) = true from rfl]
    simp only [cond_true, itemsGo, outside_in, partsF]
    generalize (xs.take i).any (fun o => o.1 == xs[i].1) = z
    cases keyR xs[i].1 with
    | false => rfl
    | true =>
      cases keyR xs[i].2.1 with
      | false => rfl
      | true =>
        simp only [Bool.not_true, cond_false, Bool.or_false]
        cases z with
        | true => rfl
        | false =>
          cases inR xs[i].2.2.1 1 86400000 with
          | false => rfl
          | true =>
            simp only [cond_false, Bool.not_true]
            cases h1 : ((xs[i].2.2.2.length : Int) == 0) with
            | true => rfl
            | false =>
              cases h2 : decide ((xs[i].2.2.2.length : Int) > 12) with
              | true => rfl
              | false =>
                have : ¬ (xs[i].2.2.2.length : Int) > 12 := by simpa using h2
                rw [dT (p := xs[i].2.2.2.length ≤ 1000) (by omega)]
                simp only [cond_true, cond_false]
                cases risingGo keyR none xs[i].2.2.2 != 0 <;> rfl

theorem r17 : R17 := by
  intro a0 _
  rw [f17_run]
  unfold checkItems
  cases h2 : decide ((a0.length : Int) > 60) with
  | true => rfl
  | false =>
    have : ¬ (a0.length : Int) > 60 := by simpa using h2
    exact go17 a0 (by omega) a0.length 0 (by omega)

theorem r18 : R18 := by
  intro a0 _
  rw [f18_run]
  unfold checkProg
  cases checkItems isKey a0.1 != 0 with
  | true => rfl
  | false =>
    simp only [cond_false]
    have e : (if (-1 : Int) < (wrap .i64 ((a0.1.length : Int) - 2)) then (wrap .i64 ((a0.1.length : Int) - 2)) else (-1 : Int)) = mx (-1) (wrap .i64 ((a0.1.length : Int) - 2)) := rfl
    rw [e]
    cases outside a0.2.1 0 86400000 with
    | true => rfl
    | false =>
      cases outside a0.2.2.1 0 86400000 with
      | true => rfl
      | false =>
        cases outside a0.2.2.2.1 0 86400000 with
        | true => rfl
        | false => cases outside a0.2.2.2.2 (-1) (mx (-1) (wrap .i64 ((a0.1.length : Int) - 2))) <;> rfl

theorem r11 : R11 := by
  intro a0 _
  rw [f11_run]
  unfold checkProg
  cases checkItems keyR a0.1 != 0 with
  | true => rfl
  | false =>
    simp only [cond_false, outside_in]
    have e : (if (-1 : Int) < (wrap .i64 ((a0.1.length : Int) - 2)) then (wrap .i64 ((a0.1.length : Int) - 2)) else (-1 : Int)) = mx (-1) (wrap .i64 ((a0.1.length : Int) - 2)) := rfl
    rw [e]
    cases inR a0.2.1 0 86400000 with
    | false => rfl
    | true =>
      cases inR a0.2.2.1 0 86400000 with
      | false => rfl
      | true =>
        cases inR a0.2.2.2.1 0 86400000 with
        | false => rfl
        | true => cases inR a0.2.2.2.2 (-1) (mx (-1) (wrap .i64 ((a0.1.length : Int) - 2))) <;> rfl

theorem ix_iff {p : Prgm} {i : Int} : (decide (0 ≤ i) && decide (i + 1 < (List.length p.1 : Int)) && decide (List.length p.1 ≤ 1000)) = true ↔ 0 ≤ i ∧ i + 1 < (p.1.length : Int) ∧ p.1.length ≤ 1000 := by
  simp only [Bool.and_eq_true, decide_eq_true_eq, and_assoc]

theorem r85 : R85 := by
  intro a0 a1 h
  obtain ⟨h1, h2, h3⟩ := ix_iff.1 h
  rw [f85_run, wrap_in (x := a1 + 1) (by omega) (by omega), dT (p := (0 : Int) ≤ a1) h1, dT (p := a1 < (a0.1.length : Int)) (by omega), dT (p := (0 : Int) ≤ a1 + 1) (by omega), dT (p := a1 + 1 < (a0.1.length : Int)) h2]
  simp only [cond_true]
  unfold behindF gapAt t74_0 t74
  cases a1 == a0.2.2.2.2 <;> rfl

theorem r48 : R48 := by
  intro a0 a1 h
  obtain ⟨h1, h2, h3⟩ := ix_iff.1 h
  rw [f48_run, wrap_in (x := a1 + 1) (by omega) (by omega), dT (p := (0 : Int) ≤ a1) h1, dT (p := a1 < (a0.1.length : Int)) (by omega), dT (p := (0 : Int) ≤ a1 + 1) (by omega), dT (p := a1 + 1 < (a0.1.length : Int)) h2]
  simp only [cond_true]
  unfold behindF gapAt
  generalize (!(List.getD a0.1 (Int.toNat a1) (Tc.dflt tItem)).2.1 == (List.getD a0.1 (Int.toNat (a1 + 1)) (Tc.dflt tItem)).2.1) = z
  cases a1 == a0.2.2.2.2 <;> cases z <;> rfl

theorem behind_eq (p : Prgm) (i : Nat) (h : i + 1 < p.1.length) : behindF p i = gapAt p i p.1[i] p.1[i + 1] := by
  have h' : i < p.1.length := by omega
  unfold behindF
  have e : ((i : Int) + 1) = ((i + 1 : Nat) : Int) := by omega
  rw [e, getN _ _ _ h', getN _ _ _ h]

theorem go45 (p : Prgm) (hb : p.1.length ≤ 1000) : ∀ (m i : Nat) (a : Int) (out : List Int), i + m = p.1.length → out.length ≤ i →
    f45h0 a p.1 p.1.length i p.1 p.2.1 p.2.2.1 p.2.2.2.1 p.2.2.2.2 out = some ⟨[.slc 0, .dat tI (begGo p i a (p.1.drop i)).2], [(0, .arr tI (out ++ (begGo p i a (p.1.drop i)).1))]⟩ := by
  intro m
  induction m with
  | zero => intro i a out hi ho; rw [f45h0_eq, dlt_not (by omega), dnil (by omega)]; simp [begGo]
  | succ m ih =>
    intro i a out hi ho
    have hlt : i < p.1.length := by omega
    rw [f45h0_eq, dlt hlt, dle0, getN _ _ _ hlt, wsucc (by omega), dcons hlt, dT (p := (out.length + [a].length) * 8 ≤ 140737488355328) (by simp; omega)]
    simp only [cond_true]
    by_cases hn : i + 1 < p.1.length
    · rw [dlt hn, ih (i + 1) _ _ (by omega) (by simp; omega), dcons hn]
      have q : (true && decide ((i : Int) + 1 < (List.length p.1 : Int)) && decide (List.length p.1 ≤ 1000)) = true := by rw [dT (p := (i : Int) + 1 < (List.length p.1 : Int)) (by omega), dT hb]; rfl
      rw [cond_true, condT q]
      have e : (p.1, (p.2.1, (p.2.2.1, (p.2.2.2.1, p.2.2.2.2)))) = p := rfl
      rw [e, behind_eq p i hn]
      simp only [begGo, List.append_assoc, List.singleton_append]
      rfl
    · rw [dlt_not (i := i + 1) (n := p.1.length) (by omega), cond_false, ih (i + 1) _ _ (by omega) (by simp; omega), dnil (by omega)]
      simp [begGo]

theorem r45 : R45 := by
  intro a0 h
  simp only [decide_eq_true_eq] at h
  rw [f45_run]
  have := go45 a0 h a0.1.length 0 0 [] (by omega) (by simp)
  simpa using this

theorem go15 (p : Prgm) (hb : p.1.length ≤ 1000) : ∀ (m i : Nat) (a : Int) (out : List Timed), i + m = p.1.length → out.length ≤ i →
    f15h0 a p.1 p.1.length i p.1 p.2.1 p.2.2.1 p.2.2.2.1 p.2.2.2.2 out = some ⟨[.slc 0], [(0, .arr tTimed (out ++ timGo p i a (p.1.drop i)))]⟩ := by
  intro m
  induction m with
  | zero => intro i a out hi ho; rw [f15h0_eq, dlt_not (by omega), dnil (by omega)]; simp [timGo]
  | succ m ih =>
    intro i a out hi ho
    have hlt : i < p.1.length := by omega
    rw [f15h0_eq, dlt hlt, dle0, getN _ _ _ hlt, wsucc (by omega), dcons hlt, condT (dT (by simp; omega))]
    simp only [cond_true]
    by_cases hn : i + 1 < p.1.length
    · rw [dlt hn, ih (i + 1) _ _ (by omega) (by simp; omega), dcons hn]
      have q : (true && decide ((i : Int) + 1 < (List.length p.1 : Int)) && decide (List.length p.1 ≤ 1000)) = true := by rw [dT (p := (i : Int) + 1 < (List.length p.1 : Int)) (by omega), dT hb]; rfl
      rw [cond_true, condT q]
      have e : (p.1, (p.2.1, (p.2.2.1, (p.2.2.2.1, p.2.2.2.2)))) = p := rfl
      rw [e, behind_eq p i hn]
      simp only [timGo, List.append_assoc, List.singleton_append]
      rfl
    · rw [dlt_not (i := i + 1) (n := p.1.length) (by omega), cond_false, ih (i + 1) _ _ (by omega) (by simp; omega), dnil (by omega)]
      simp [timGo]

theorem r15 : R15 := by
  intro a0 a1 h
  simp only [decide_eq_true_eq] at h
  rw [f15_run]
  have := go15 a0 h a0.1.length 0 a1 [] (by omega) (by simp)
  simpa using this

end Go.Ev.K

set_option linter.unusedVariables false
set_option linter.unusedSimpArgs false
namespace Go.Ev.K
open Go Go.Ev Go.Proofs
theorem checkItems_len {key : Bytes → Bool} {l : List Item} (h : checkItems key l = 0) : l.length ≤ 60 := by
  unfold checkItems at h
  cases h2 : decide ((l.length : Int) > 60) with
  | true => rw [h2] at h; simp at h
  | false =>
    have : ¬ (l.length : Int) > 60 := by simpa using h2
    omega

theorem checkProg_items {key : Bytes → Bool} {p : Prgm} (h : checkProg key p = 0) : checkItems key p.1 = 0 := by
  unfold checkProg at h
  cases h2 : checkItems key p.1 != 0 with
  | true => rw [h2, cond_true] at h; exact h
  | false => simpa using h2

theorem eta_p (p : Prgm) : (p.1, (p.2.1, (p.2.2.1, (p.2.2.2.1, p.2.2.2.2)))) = p := rfl

theorem begGo_len (p : Prgm) : ∀ (l : List Item) (i a : Int), (begGo p i a l).1.length = l.length
  | [], _, _ => rfl
  | [x], _, _ => rfl
  | x :: y :: l, i, a => by
    have := begGo_len p (y :: l) (i + 1) (wrap .i64 (wrap .i64 (a + x.2.2.1) + gapAt p i x y))
    simp only [begGo, List.length_cons] at this ⊢
    omega

theorem timGo_len (p : Prgm) : ∀ (l : List Item) (i a : Int), (timGo p i a l).length = l.length
  | [], _, _ => rfl
  | [x], _, _ => rfl
  | x :: y :: l, i, a => by
    have := timGo_len p (y :: l) (i + 1) (wrap .i64 (wrap .i64 (a + x.2.2.1) + gapAt p i x y))
    simp only [timGo, List.length_cons] at this ⊢
    omega

theorem r44 : R44 := by
  intro a0 a1 _
  rw [f44_run, eta_p]
  unfold fromF
  cases h : checkProg isKey a0 != 0 with
  | true => rfl
  | false =>
    have h0 : checkProg isKey a0 = 0 := by simpa using h
    have := checkItems_len (checkProg_items h0)
    rw [dT (p := a0.1.length ≤ 1000) (by omega)]
    have e : t84_0 a1 = isMom a1 := rfl
    simp only [cond_false, cond_true, e]
    cases isMom a1 with
    | false => rfl
    | true => simp only [Bool.not_true, Bool.false_or, cond_false]; cases decide (wrap .i64 (a1 + (begGo a0 0 0 a0.1).2) > 345686400000) <;> rfl

theorem go8 (f : Int) (xs : List Item) (bs : List Int) (hb : xs.length ≤ 60) (hl : bs.length = xs.length) : ∀ (m i : Nat) (out : List Timed), i + m = xs.length → out.length ≤ i →
    f8h0 f xs xs.length i bs out = some ⟨[.slc 0, .dat tI 0], [(0, .arr tTimed (out ++ ttGo f (bs.drop i) (xs.drop i)))]⟩ := by
  intro m
  induction m with
  | zero =>
    intro i out hi ho
    rw [f8h0_eq, dlt_not (by omega), dnil (xs := xs) (by omega), dnil (xs := bs) (by omega)]
    simp [ttGo]
  | succ m ih =>
    intro i out hi ho
    have hlt : i < xs.length := by omega
    have hlt' : i < bs.length := by omega
    rw [f8h0_eq, dlt hlt, dlt hlt', dle0, getN _ _ _ hlt, getN _ _ _ hlt', wsucc (by omega), dcons hlt, dcons hlt', dT (p := Int.toNat (i : Int) < bs.length) (by simpa using hlt'), condT (dT (by simp; omega)), ih (i + 1) _ (by omega) (by simp; omega)]
    simp only [cond_true, ttGo, List.append_assoc, List.singleton_append]

theorem fromF_prog {p : Prgm} {f : Int} (h : fromF p f = 0) : checkProg isKey p = 0 := by
  unfold fromF at h
  cases h2 : checkProg isKey p != 0 with
  | true => rw [h2, cond_true] at h; exact h
  | false => simpa using h2

theorem r8 : R8 := by
  intro a0 a1 _
  rw [f8_run, eta_p]
  unfold timetable
  cases h : fromF a0 a1 != 0 with
  | true => rfl
  | false =>
    have h0 : fromF a0 a1 = 0 := by simpa using h
    have := checkItems_len (checkProg_items (fromF_prog h0))
    rw [dT (p := a0.1.length ≤ 1000) (by omega)]
    simp only [cond_false, cond_true]
    have := go8 a1 a0.1 (begGo a0 0 0 a0.1).1 this (begGo_len a0 _ _ _) a0.1.length 0 [] (by omega) (by simp)
    simpa using this

theorem r9 : R9 := by
  intro a0 _
  rw [f9_run, eta_p]
  unfold longP
  cases h : checkProg isKey a0 != 0 with
  | true => rfl
  | false =>
    have h0 : checkProg isKey a0 = 0 := by simpa using h
    have := checkItems_len (checkProg_items h0)
    rw [dT (p := a0.1.length ≤ 1000) (by omega)]
    rfl

theorem beq_comm' (x y : Bytes) : (x == y) = (y == x) := by
  by_cases h : x = y
  · subst h; rfl
  · have h' : ¬ y = x := fun e => h e.symm
    rw [beq_eq_false_iff_ne.2 h, beq_eq_false_iff_ne.2 h']

theorem go10 (xs : List Item) (a b c half : Int) (hb : xs.length ≤ 1000) : ∀ (m i : Nat) (n : Int), i + 1 + m = xs.length →
    f10h0 n ((i + 1 : Nat) : Int) xs a b c half = some ⟨[.dat tI (chGo half i (xs.drop i) n), .dat tI 0], []⟩ := by
  intro m
  induction m with
  | zero =>
    intro i n hi
    rw [f10h0_eq, dlt_not (by omega), dcons (show i < xs.length by omega), dnil (by omega)]; rfl
  | succ m ih =>
    intro i n hi
    have hlt : i < xs.length := by omega
    have hlt' : i + 1 < xs.length := by omega
    have e : wrap .i64 (((i + 1 : Nat) : Int) - 1) = (i : Int) := by rw [wrap_in (by omega) (by omega)]; omega
    rw [f10h0_eq, e, dlt hlt', dlt hlt, dle0, dle0, getN _ _ _ hlt, getN _ _ _ hlt', wsucc (by omega), ih (i + 1) _ (by omega), ih (i + 1) _ (by omega), dcons hlt, dcons hlt']
    simp only [cond_true, chGo]
    rw [beq_comm' xs[i].2.1 xs[i + 1].2.1]
    cases (i : Int) != half with
    | false => rfl
    | true => cases xs[i + 1].2.1 == xs[i].2.1 <;> rfl

theorem r10 : R10 := by
  intro a0 _
  rw [f10_run, eta_p]
  unfold changes
  cases h : checkProg isKey a0 != 0 with
  | true => rfl
  | false =>
    have h0 : checkProg isKey a0 = 0 := by simpa using h
    have hl := checkItems_len (checkProg_items h0)
    simp only [cond_false]
    cases hc : a0.1 with
    | nil => rw [f10h0_eq]; rfl
    | cons x l =>
      rw [← hc]
      have := go10 a0.1 a0.2.1 a0.2.2.1 a0.2.2.2.1 a0.2.2.2.2 (by omega) (a0.1.length - 1) 0 0 (by rw [hc]; simp; omega)
      simpa using this

theorem go14 (xs : List Item) (a b c half : Int) (hb : xs.length ≤ 1000) : ∀ (m i : Nat) (n : Int), i + 1 + m = xs.length →
    f14h0 n (i : Int) xs a b c half = some ⟨[.dat tI (chGo half i (xs.drop i) n)], []⟩ := by
  intro m
  induction m with
  | zero =>
    intro i n hi
    rw [f14h0_eq, wsucc (by omega), dlt_not (by omega), dcons (show i < xs.length by omega), dnil (by omega)]; rfl
  | succ m ih =>
    intro i n hi
    have hlt : i < xs.length := by omega
    have hlt' : i + 1 < xs.length := by omega
    rw [f14h0_eq, wsucc (by omega), dlt hlt', dlt hlt, dle0, dle0, getN _ _ _ hlt, getN _ _ _ hlt', ih (i + 1) _ (by omega), ih (i + 1) _ (by omega), dcons hlt, dcons hlt']
    simp only [cond_true, chGo]
    cases (i : Int) != half with
    | false => rfl
    | true => cases xs[i].2.1 == xs[i + 1].2.1 <;> rfl

theorem r14 : R14 := by
  intro a0 h
  simp only [decide_eq_true_eq] at h
  rw [f14_run]
  cases hc : a0.1 with
  | nil => rw [f14h0_eq]; rfl
  | cons x l =>
    rw [← hc]
    have := go14 a0.1 a0.2.1 a0.2.2.1 a0.2.2.2.1 a0.2.2.2.2 (by omega) (a0.1.length - 1) 0 0 (by rw [hc]; simp; omega)
    simpa using this

theorem r13 : R13 := by
  intro a0 h
  simp only [decide_eq_true_eq] at h
  rw [f13_run, eta_p]
  unfold longR
  have hl := timGo_len a0 a0.1 0 0
  rw [dT h, cond_true]
  have hq : (timGo a0 0 0 a0.1).length ≤ 1000 := by omega
  clear hl
  revert hq
  generalize timGo a0 0 0 a0.1 = t
  intro hq
  cases t with
  | nil => rfl
  | cons x l =>
    have h1 : ((List.length (x :: l) : Int) == 0) = false := by simp; omega
    have h0 : 1 ≤ List.length (x :: l) := by simp
    have e : wrap .i64 ((List.length (x :: l) : Int) - 1) = ((List.length (x :: l) - 1 : Nat) : Int) := by rw [wrap_in (by omega) (by omega)]; omega
    have hlt : List.length (x :: l) - 1 < List.length (x :: l) := by simp
    rw [h1, e, dle0, dlt hlt, getN _ _ _ hlt, dT (p := Int.toNat ((List.length (x :: l) - 1 : Nat) : Int) < List.length (x :: l)) (by simp), List.getLast?_eq_getElem?, List.getElem?_eq_getElem hlt]
    simp only [cond_true, cond_false]

theorem r12 : R12 := by
  intro a0 a1 h
  simp only [decide_eq_true_eq] at h
  rw [f12_run, eta_p, dT h]
  unfold beginF
  have e : t47_0 a1 = inR a1 0 345686399999 := rfl
  rw [e]
  cases inR a1 0 345686399999 with
  | false => rfl
  | true => simp only [cond_true, Bool.not_true, Bool.false_or, cond_false]; cases decide (wrap .i64 (a1 + longR a0) > 345686400000) <;> rfl

theorem beq_timed (x y : Timed) : Tc.beq tTimed x y = (x == y) := rfl

theorem go19 (a b : List Timed) (hl : a.length = b.length) (hb : a.length ≤ 1000) : ∀ (m i : Nat), i + m = a.length → f19h0 a b a.length i = some ⟨[.dat .bool (a.drop i == b.drop i)], []⟩ := by
  intro m
  induction m with
  | zero => intro i hi; rw [f19h0_eq, dlt_not (by omega), dnil (xs := a) (by omega), dnil (xs := b) (by omega)]; rfl
  | succ m ih =>
    intro i hi
    have hlt : i < a.length := by omega
    have hlt' : i < b.length := by omega
    rw [f19h0_eq, dlt hlt, dlt hlt', dle0, getN _ _ _ hlt, getN _ _ _ hlt', wsucc (by omega), ih (i + 1) (by omega), dcons hlt, dcons hlt', beq_timed, List.cons_beq_cons]
    simp only [cond_true]
    cases a[i] == b[i] <;> rfl

theorem r19 : R19 := by
  intro a0 a1 h
  simp only [decide_eq_true_eq] at h
  rw [f19_run]
  cases hn : ((a0.length : Int) != (a1.length : Int)) with
  | true =>
    have : a0 ≠ a1 := by
      intro e; subst e; simp at hn
    have : (a0 == a1) = false := by simpa using this
    rw [this]; rfl
  | false =>
    have hl : a0.length = a1.length := by simp at hn; omega
    exact go19 a0 a1 hl h a0.length 0 (by omega)

end Go.Ev.K

set_option linter.unusedVariables false
namespace Go.Ev
open Go Go.RowKit

theorem pure_sound {P : Program} {G : (Nat → Prop) → Array Obj → Prop} {f : FuncId} {md : List Bool} {ts : List Tc} {ok : Tup ts → Bool} {pat : Fr} {out : Tup ts → FV}
    (hp : ∀ x, fillF pat (undats ts x) = ⟨undats ts x, []⟩) (hr : ∀ x, resFV [out x] = out x)
    (h : ∀ x, ok x = true → ∀ (w : World) (V : Vw) (vals : List Value), V.h = w.heap → G V.S w.heap → RelVs V (undats ts x) vals →
      Calls P f vals.toArray w fun e w' => ∃ u, e = .returned u ∧ RowKit.Below w.heap.size w w' ∧ ∀ V', RelV V' (out x) u) :
    Sound P G f (genS md false pat ts ok (fun x => ⟨[out x], []⟩)) := by
  refine gen_of (P := P) (G := G) (f := f) (fun pk o => ∀ (vals : List Value) (w : World) (loc : Nat → Loc) (S : Nat → Prop), Core pk.reg loc S w.heap → G S w.heap →
    RelVs (view pk.reg loc S w.heap) pk.slots vals →
    Calls P f vals.toArray w fun e w' => ∃ u, e = .returned u ∧ Sm w w' ∧ ∃ loc' S', Ctx (entOf pk loc S w.heap) o.reg loc' S' w'.heap ∧
      (view pk.reg loc S w.heap).le (view o.reg loc' S' w'.heap) ∧ RelV (view o.reg loc' S' w'.heap) (resFV o.slots) u) ?_
  intro x hx vals w loc S hc hg hv
  rw [hp] at hc hv ⊢
  refine (h x hx w (view (Fr.reg ⟨undats ts x, []⟩) loc S w.heap) vals rfl hg hv).mono ?_
  rintro e w' ⟨u, rfl, hb, hu⟩
  refine ⟨u, rfl, ⟨hb.os, hb.output⟩, loc, S, ⟨⟨fun _ => trivial, fun _ _ h => h.elim, fun _ h => h.elim, fun b hb' => Nat.lt_of_lt_of_le (hc.bS b hb') hb.size⟩,
    ⟨hb.size, fun b hb' _ => hb.block b hb', fun _ h => h, fun _ h => .inl h, fun _ h => h.elim, fun _ _ ⟨_, h, _⟩ => h.elim, hc.bS⟩⟩,
    ⟨fun _ _ h => h.elim, fun _ _ _ h => h.elim, fun _ _ _ _ h => h.elim, fun _ _ h => h.elim, fun b hb' => ⟨hb', hb.block b (hc.bS b hb')⟩⟩, ?_⟩
  rw [hr]; exact hu _

theorem enters_plain {P : Program} {f : FuncId} {fn : Func} (hf : P.funcs[f]? = some fn) {b : _} (hb : fn.body = some b) (hn : (fn.name == "runtime.NumGoroutine") = false) : Enters P f :=
  enters_of hf hb hn
end Go.Ev

/-
  DERIVED: THE SHELF's CONTRACTS AT THIS DUMP, IN PLAIN WORDS (tools/lay-plain.mjs out of 'GleeKs.lean', which tools/lay-shelf.mjs wrote): THE SAME DECLARATIONS UNDER THE SAME NAMES: 'import', 'namespace', 'open', 'def', 'theorem' AND NOTHING ELSE: no command of the shelf's: FOR A HAND-IN. Each laying: the table of numbers ('.._ren') and one theorem, a field a fact of the dump's own or the kernel's comparison; each contract: ONE APPLICATION.
-/
namespace Go.Proofs
open Go.Shelf
def Tryd.lays137_ren : Go.Shelf.Ren := ⟨fun | 137 => 86 | 217 => 100 | 266 => 116 | n => n, fun | 9 => 9 | 5 => 5 | 3 => 3 | n => n, fun | n => n⟩
theorem Tryd.lays137 : Go.Proofs.Lays.n137 Tryd.prog Tryd.lays137_ren := {
  mixed := by kernel_rfl
  f137 := Tryd.func86.trans (congrArg some (by kernel_rfl))
  f217 := Tryd.func100.trans (congrArg some (by kernel_rfl))
  f266 := Tryd.func116.trans (congrArg some (by kernel_rfl))
  t3 := Tryd.underlying3
  a3 := Tryd.isAgg3
  z3 := Tryd.sizeOf3
  v3 := Tryd.zeroValue3
  t5 := Tryd.underlying5
  a5 := Tryd.isAgg5
  z5 := Tryd.sizeOf5
  v5 := Tryd.zeroValue5
  t9 := Tryd.underlying9
  a9 := Tryd.isAgg9
  z9 := Tryd.sizeOf9
  v9 := Tryd.zeroValue9 }
def Tryd.lays160_ren : Go.Shelf.Ren := ⟨fun | 160 => 87 | 232 => 102 | 231 => 101 | 227 => 103 | 234 => 105 | 233 => 104 | 236 => 107 | 235 => 106 | 228 => 117 | 271 => 120 | 151 => 119 | 197 => 118 | 120 => 125 | 152 => 124 | 260 => 123 | 137 => 86 | 119 => 128 | 224 => 129 | 225 => 130 | 217 => 100 | 266 => 116 | n => n, fun | 9 => 9 | 4 => 4 | 3 => 3 | 5 => 5 | 117 => 125 | 116 => 124 | 0 => 0 | 124 => 128 | 21 => 21 | 105 => 135 | 46 => 138 | 119 => 140 | 139 => 143 | 138 => 142 | n => n, fun | 3 => 1 | 4 => 2 | n => n⟩
theorem Tryd.lays160 : Go.Proofs.Lays.n160 Tryd.prog Tryd.lays160_ren := {
  mixed := by kernel_rfl
  f119 := Tryd.func128.trans (congrArg some (by kernel_rfl))
  f120 := Tryd.func125.trans (congrArg some (by kernel_rfl))
  f137 := Tryd.func86.trans (congrArg some (by kernel_rfl))
  f151 := Tryd.func119.trans (congrArg some (by kernel_rfl))
  f152 := Tryd.func124.trans (congrArg some (by kernel_rfl))
  f160 := Tryd.func87.trans (congrArg some (by kernel_rfl))
  f197 := Tryd.func118.trans (congrArg some (by kernel_rfl))
  f217 := Tryd.func100.trans (congrArg some (by kernel_rfl))
  f224 := Tryd.func129.trans (congrArg some (by kernel_rfl))
  f225 := Tryd.func130.trans (congrArg some (by kernel_rfl))
  f227 := Tryd.func103.trans (congrArg some (by kernel_rfl))
  f228 := Tryd.func117.trans (congrArg some (by kernel_rfl))
  f231 := Tryd.func101.trans (congrArg some (by kernel_rfl))
  f232 := Tryd.func102.trans (congrArg some (by kernel_rfl))
  f233 := Tryd.func104.trans (congrArg some (by kernel_rfl))
  f234 := Tryd.func105.trans (congrArg some (by kernel_rfl))
  f235 := Tryd.func106.trans (congrArg some (by kernel_rfl))
  f236 := Tryd.func107.trans (congrArg some (by kernel_rfl))
  f260 := Tryd.func123.trans (congrArg some (by kernel_rfl))
  f266 := Tryd.func116.trans (congrArg some (by kernel_rfl))
  f271 := Tryd.func120.trans (congrArg some (by kernel_rfl))
  t0 := Tryd.underlying0
  a0 := Tryd.isAgg0
  z0 := Tryd.sizeOf0
  v0 := Tryd.zeroValue0
  t3 := Tryd.underlying3
  a3 := Tryd.isAgg3
  z3 := Tryd.sizeOf3
  v3 := Tryd.zeroValue3
  t4 := Tryd.underlying4
  a4 := Tryd.isAgg4
  z4 := Tryd.sizeOf4
  v4 := Tryd.zeroValue4
  t5 := Tryd.underlying5
  a5 := Tryd.isAgg5
  z5 := Tryd.sizeOf5
  v5 := Tryd.zeroValue5
  t9 := Tryd.underlying9
  a9 := Tryd.isAgg9
  z9 := Tryd.sizeOf9
  v9 := Tryd.zeroValue9
  t21 := Tryd.underlying21
  a21 := Tryd.isAgg21
  z21 := Tryd.sizeOf21
  v21 := Tryd.zeroValue21
  t46 := Tryd.underlying138
  a46 := Tryd.isAgg138
  z46 := Tryd.sizeOf138
  v46 := Tryd.zeroValue138
  t105 := Tryd.underlying135
  a105 := Tryd.isAgg135
  z105 := Tryd.sizeOf135
  v105 := Tryd.zeroValue135
  t116 := Tryd.underlying124
  a116 := Tryd.isAgg124
  z116 := Tryd.sizeOf124
  t117 := Tryd.underlying125
  a117 := Tryd.isAgg125
  z117 := Tryd.sizeOf125
  v117 := Tryd.zeroValue125
  t119 := Tryd.underlying140
  a119 := Tryd.isAgg140
  z119 := Tryd.sizeOf140
  t124 := Tryd.underlying128
  a124 := Tryd.isAgg128
  z124 := Tryd.sizeOf128
  v124 := Tryd.zeroValue128
  t138 := Tryd.underlying142
  a138 := Tryd.isAgg142
  z138 := Tryd.sizeOf142
  v138 := Tryd.zeroValue142
  t139 := Tryd.underlying143
  a139 := Tryd.isAgg143
  z139 := Tryd.sizeOf143
  v139 := Tryd.zeroValue143
  g3 := by kernel_rfl
  g4 := by kernel_rfl }
end Go.Proofs

set_option linter.unusedVariables false
set_option linter.unusedSimpArgs false
namespace Go.Ev.K
open Go Go.Ev Go.Proofs
theorem r86 : R86 := by
  refine ⟨pure_sound (P := Tryd.prog) (G := En0.gl) (ts := [.str, .int .u8]) (out := fun x => .dat tI (indexB x.1 x.2.1)) (fun _ => rfl) (fun _ => rfl) ?_, enters_of Tryd.func86 rfl rfl⟩
  rintro ⟨s, c, _⟩ _ w V vals hV _ ⟨u1, us, rfl, h1, u2, us', rfl, h2, rfl⟩
  cases h1
  cases h2
  refine (Any.strings_IndexByte Tryd.lays137 ⟨List.toArray s⟩ c w).mono ?_
  rintro e w' ⟨rfl, rfl⟩
  exact ⟨_, rfl, RowKit.Below.refl _ _, fun _ => rfl⟩

theorem r87 : R87 := by
  refine ⟨pure_sound (P := Tryd.prog) (G := En0.gl) (ts := [.str, .str]) (out := fun x => .dat .str (trimB x.1 x.2.1)) (fun _ => rfl) (fun _ => rfl) ?_, enters_of Tryd.func87 rfl rfl⟩
  rintro ⟨s, c, _⟩ hok w V vals hV _ ⟨u1, us, rfl, h1, u2, us', rfl, h2, rfl⟩
  cases h1
  cases h2
  have hok' : (decide (List.length s ≤ 1000000) && decide (List.length c ≤ 1000) && c.all fun b => decide (b.toNat < 128)) = true := hok
  simp only [Bool.and_eq_true, decide_eq_true_eq] at hok'
  obtain ⟨⟨h1, h2⟩, h3⟩ := hok'
  refine (Any.strings_Trim_laid Tryd.lays160 (by kernel_rfl) ⟨List.toArray s⟩ ⟨List.toArray c⟩ w (by show (List.toArray s).size ≤ _; simp; omega) (by show (List.toArray c).size < _; simp; omega) (ascii_of_all h3)).mono ?_
  rintro e w' ⟨rfl, hb⟩
  exact ⟨_, rfl, hb, fun _ => rfl⟩

theorem indexByte_mem (b : UInt8) : ∀ (l : Bytes), decide (Lib.indexByte l b < 0) = !l.contains b
  | [] => rfl
  | x :: l => by
    have ih := indexByte_mem b l
    have hg := Lib.indexByte_ge l b
    unfold Lib.indexByte
    by_cases h : x = b
    · subst h; simp
    · have h1 : (x == b) = false := beq_eq_false_iff_ne.2 h
      have h2 : (b == x) = false := beq_eq_false_iff_ne.2 (fun e => h e.symm)
      rw [h1]
      simp only [List.contains_cons, h2, Bool.false_or, Bool.false_eq_true, if_false]
      rw [← ih]
      by_cases h3 : Lib.indexByte l b = -1
      · rw [h3]; rfl
      · have h4 : (Lib.indexByte l b == -1) = false := beq_eq_false_iff_ne.2 h3
        rw [h4]
        simp only [Bool.false_eq_true, if_false]
        rw [dF (by omega), dF (by omega)]

theorem toU (b : UInt8) : (Int.toNat ((b.toNat : Nat) : Int)).toUInt8 = b := by
  show (b.toNat).toUInt8 = b
  exact UInt8.ofNat_toNat

theorem only_all (s cs : Bytes) : onlyB s cs = s.all fun b => cs.contains b := by
  unfold onlyB
  congr 1
  funext b
  unfold indexB
  rw [toU, indexByte_mem, Bool.not_not]

theorem dw_nil {α : Type} (p : α → Bool) : ∀ (l : List α), l.dropWhile p = [] ↔ ∀ x ∈ l, p x = true
  | [] => by simp
  | x :: l => by
    rw [List.dropWhile_cons]
    cases h : p x with
    | true => simp [h, dw_nil p l]
    | false => simp [h]

theorem trim_nil (s cs : Bytes) : (trimB s cs == []) = s.all fun b => cs.contains b := by
  unfold trimB Lib.trimS Lib.trimLeftS Lib.trimRightS
  rw [Bool.eq_iff_iff, beq_iff_eq, dw_nil, List.all_eq_true]
  constructor
  · intro h
    -- a byte beyond the set would stay
    have h' : ∀ x ∈ s.reverse.dropWhile (fun b => cs.contains b), cs.contains x = true := fun x hx => h x (by simpa using hx)
    have h2 : s.reverse.dropWhile (fun b => cs.contains b) = [] := by
      cases hd : s.reverse.dropWhile (fun b => cs.contains b) with
      | nil => rfl
      | cons x l =>
        have := List.head?_dropWhile_not (fun b => cs.contains b) s.reverse
        rw [hd] at this h'
        simp only [List.head?_cons] at this
        have h3 := h' x (List.mem_cons_self ..)
        simp only [h3] at this
        simp at this
    rw [dw_nil] at h2
    exact fun x hx => h2 x (by simpa using hx)
  · intro h x hx
    have := (List.dropWhile_sublist (fun b => cs.contains b) (l := s.reverse)).subset (by simpa using hx)
    exact h x (by simpa using this)

theorem isKey_eq (s : Bytes) : isKey s = keyR s := by
  unfold isKey keyR
  rw [trim_nil, only_all, only_all]
  cases s with
  | nil => rfl
  | cons x l =>
    have e1 : (!((x :: l : Bytes) == [])) = true := rfl
    have e2 : inR ((x :: l : Bytes).length : Int) 1 40 = decide (((x :: l : Bytes).length : Int) ≤ 40) := by
      unfold inR
      rw [dT (p := (1 : Int) ≤ ((x :: l : Bytes).length : Int)) (by simp; omega), Bool.true_and]
    have e3 : ((x :: l : Bytes).getD 0 0) = x := rfl
    have e4 : (x :: l : Bytes).take 1 = [x] := rfl
    have e5 : decide (indexB smallsB ((x.toNat : Nat) : Int) ≥ 0) = smallsB.contains x := by
      unfold indexB
      rw [toU]
      have := indexByte_mem x smallsB
      by_cases h : Lib.indexByte smallsB x < 0
      · rw [dT h] at this
        rw [dF (by omega)]
        cases hc : smallsB.contains x <;> rw [hc] at this <;> first | rfl | cases this
      · rw [dF h] at this
        rw [dT (by omega)]
        cases hc : smallsB.contains x <;> rw [hc] at this <;> first | rfl | cases this
    rw [e1, e2, e3, e4, e5, Bool.true_and]
    simp only [List.all_cons, List.all_nil, Bool.and_true]

theorem isKey_fun : isKey = keyR := funext isKey_eq

theorem r20 : R20 := by
  intro _
  rw [f20_run]
  unfold longP
  rw [isKey_fun]
  rfl

end Go.Ev.K

set_option linter.unusedVariables false
set_option linter.unusedSimpArgs false
namespace Go.Ev.K
open Go Go.Ev Go.Proofs
def QRp (L : List Int) (a b : Int) (f : Fr) : Prop := ∃ (a' : Int) (items : List Item) (p q r s : Int),
  f = ⟨[.agg [.slc 2, .dat tI p, .dat tI q, .dat tI r, .dat tI s]], [(0, .box [.dat (.slice tI) L, .dat tI a']), (2, .arr tItem items)]⟩ ∧ a ≤ a' ∧ a' ≤ b ∧ items.length ≤ 5 ∧ ∀ x ∈ items, x.2.2.2.length ≤ 5

theorem rp2 (x0 : List Bytes) (x1 x2 : Int) (L : List Int) (z1 z2 z3 z4 p q r s : Int) (n g : Bytes) (lg : Int) (nl : List Bytes) (hn : nl.length ≤ 3) (items : List Item) (hi : items.length ≤ 4) : ∀ (m k : Nat) (a : Int) (parts : List Bytes),
    k + m = nl.length → 0 ≤ a → a + m ≤ 1099511627776 → parts.length ≤ k →
    ∃ (a' : Int) (it : Item), f40h2 x0 x1 x2 nl.length k L a z1 z2 z3 z4 p q r s n g lg nl items parts = f40h0 x0 x1 (wrap .i64 (x2 + 1)) L a' z1 z2 z3 z4 p q r s (items ++ [it]) ∧
      a ≤ a' ∧ a' ≤ a + m ∧ it.2.2.2.length ≤ 5 := by
  intro m
  induction m with
  | zero =>
    intro k a parts hk h0 ha hp
    rw [f40h2_eq, dlt_not (i := k) (n := nl.length) (by omega), cond_false]
    cases hz : ((parts.length : Int) == 0) with
    | true =>
      refine ⟨a, (n, (g, (lg, [[97, 108, 116, 111]]))), ?_, by omega, by omega, by simp⟩
      rw [cond_true]
      exact condT (dT (by simp; omega))
    | false =>
      refine ⟨a, (n, (g, (lg, parts))), ?_, by omega, by omega, by show parts.length ≤ 5; omega⟩
      rw [cond_false]
      exact condT (dT (by simp; omega))
  | succ m ih =>
    intro k a parts hk h0 ha hp
    have hlt : k < nl.length := by omega
    rw [f40h2_eq, dlt hlt, dle0, getN _ _ _ hlt, wsucc (by omega), dT (p := Int.toNat (k : Int) < nl.length) (by simpa using hlt), atOk_t h0 (by omega), nextAt_s h0 (by omega)]
    simp only [cond_true]
    cases next L a 2 == 0 with
    | true =>
      obtain ⟨a', it, e, h1, h2, h3⟩ := ih (k + 1) (a + 1) (parts ++ [nl[k]]) (by omega) (by omega) (by omega) (by simp; omega)
      refine ⟨a', it, ?_, by omega, by omega, h3⟩
      rw [cond_true, condT (dT (by simp; omega))]; exact e
    | false =>
      obtain ⟨a', it, e, h1, h2, h3⟩ := ih (k + 1) (a + 1) parts (by omega) (by omega) (by omega) (by omega)
      exact ⟨a', it, e, by omega, by omega, h3⟩

theorem QRp_mono {L : List Int} {a b c d : Int} (h1 : c ≤ a) (h2 : b ≤ d) {o : Option Fr} (h : Ends (QRp L a b) o) : Ends (QRp L c d) o := by
  refine ends_mono h ?_
  rintro f ⟨a', it, p, q, r, s, e, h3, h4, h5⟩
  exact ⟨a', it, p, q, r, s, e, by omega, by omega, h5⟩

theorem rp0 (xs : List Bytes) (hx : xs.length ≤ 5) (L : List Int) (z1 z2 z3 z4 p q r s : Int) : ∀ (m i : Nat) (a : Int) (items : List Item),
    i + m = xs.length → 0 ≤ a → a + 10 * m + 10 ≤ 1099511627776 → items.length ≤ i → (∀ x ∈ items, x.2.2.2.length ≤ 5) →
    Ends (QRp L a (a + 10 * m + 10)) (f40h0 xs xs.length i L a z1 z2 z3 z4 p q r s items) := by
  intro m
  induction m with
  | zero =>
    intro i a items hi h0 ha hl hp
    rw [f40h0_eq, dlt_not (i := i) (n := xs.length) (by omega), cond_false]
    have leaf : ∀ (a' s' : Int), a ≤ a' → a' ≤ a + 10 → Ends (QRp L a (a + 10 * (0 : Nat) + 10)) (some ⟨[.agg [.slc 2, .dat tI p, .dat tI q, .dat tI r, .dat tI s']], [(0, .box [.dat (.slice tI) L, .dat tI a']), (2, .arr tItem items)]⟩) :=
      fun a' s' h1 h2 => ends_some ⟨a', items, p, q, r, s', rfl, h1, by omega, by omega, hp⟩
    refine ends_cond (fun _ => ?_) (fun _ => leaf a s (by omega) (by omega))
    rw [atOk_t h0 (by omega), nextAt_s h0 (by omega), atOk_t (k := 1) (a := a + 1) (by omega) (by omega), nextAt_s (a := a + 1) (by omega) (by omega)]
    simp only [cond_true]
    exact ends_cond (fun _ => leaf _ _ (by omega) (by omega)) (fun _ => leaf _ _ (by omega) (by omega))
  | succ m ih =>
    intro i a items hi h0 ha hl hp
    have hlt : i < xs.length := by omega
    rw [f40h0_eq, dlt hlt, dle0, getN _ _ _ hlt, wsucc (by omega), atOk_t h0 (by omega), nextAt_s h0 (by omega), atOk_t (k := 1) (a := a + 1) (by omega) (by omega), nextAt_s (a := a + 1) (by omega) (by omega),
      atOk_t (k := 1) (a := a + 1 + 1) (by omega) (by omega), nextAt_s (a := a + 1 + 1) (by omega) (by omega)]
    simp only [cond_true]
    refine ends_cond (fun _ => ?_) (fun _ => ?_)
    · exact QRp_mono (by omega) (by omega) (ih (i + 1) (a + 1) items (by omega) (by omega) (by omega) (by omega) hp)
    · refine ends_if rfl (ends_if rfl ?_)
      obtain ⟨a', it, e, h1, h2, h3⟩ := rp2 xs xs.length i L z1 z2 z3 z4 p q r s xs[i] (some_ L (a + 1) [[114, 111, 119, 115], [114, 111, 119, 115], [99, 105, 114, 99, 108, 101]]) (pick L (a + 1 + 1) [(50 : Int), (100 : Int), (100 : Int), (200 : Int)])
        [[97, 108, 116, 111], [98, 97, 115, 115], [115, 111, 108, 105]] (by simp) items (by omega) 3 0 (a + 1 + 1 + 1) [] (by simp) (by omega) (by omega) (by simp)
      rw [wsucc (by omega)] at e
      have e' : f40h2 xs xs.length i ((List.length ([[97, 108, 116, 111], [98, 97, 115, 115], [115, 111, 108, 105]] : List Bytes) : Nat) : Int) (0 : Int) L (a + 1 + 1 + 1) z1 z2 z3 z4 p q r s xs[i] (some_ L (a + 1) [[114, 111, 119, 115], [114, 111, 119, 115], [99, 105, 114, 99, 108, 101]]) (pick L (a + 1 + 1) [(50 : Int), (100 : Int), (100 : Int), (200 : Int)])
        [[97, 108, 116, 111], [98, 97, 115, 115], [115, 111, 108, 105]] items [] = _ := e
      rw [e']
      refine QRp_mono (by omega) (by omega) (ih (i + 1) a' (items ++ [it]) (by omega) (by omega) (by omega) (by simp; omega) ?_)
      intro x hx
      rcases List.mem_append.1 hx with h | h
      · exact hp x h
      · rw [List.mem_singleton.1 h]; exact h3

theorem rp_ends (L : List Int) (at_ n : Int) (h : (atOk 1000 at_ && decide (0 ≤ n) && decide (n ≤ 5)) = true) :
    Ends (QRp L at_ (at_ + 100)) (I40.run ⟨[.ptr 0 0, .dat tI n], [(0, .box [.dat (.slice tI) L, .dat tI at_])]⟩) := by
  simp only [Bool.and_eq_true, decide_eq_true_eq] at h
  obtain ⟨⟨h1, h2⟩, h3⟩ := h
  have h1 := atOk_iff.1 h1
  rw [f40_run, atOk_t h1.1 (by omega), nextAt_s h1.1 (by omega), atOk_t (k := 1) (a := at_ + 1) (by omega) (by omega), nextAt_s (a := at_ + 1) (by omega) (by omega),
      atOk_t (k := 1) (a := at_ + 1 + 1) (by omega) (by omega), nextAt_s (a := at_ + 1 + 1) (by omega) (by omega)]
  refine ends_if rfl (ends_if rfl (ends_if rfl (ends_if rfl (ends_if (dT h2) (ends_if (dT h3) ?_)))))
  generalize hx : List.drop (Int.toNat 0) (List.take (Int.toNat n) ([[99], [97], [100], [98], [101]] : List Bytes)) = xs
  have hl : xs.length ≤ 5 := by
    rw [← hx, List.length_drop, List.length_take]
    show min _ 5 - _ ≤ 5
    omega
  exact QRp_mono (by omega) (by omega) (rp0 xs hl L 0 0 0 0 _ _ _ _ xs.length 0 (at_ + 1 + 1 + 1) [] (by omega) (by omega) (by omega) (by simp) (by simp))

theorem rightP_spec (L : List Int) (at_ n : Int) (h : (atOk 1000 at_ && decide (0 ≤ n) && decide (n ≤ 5)) = true) :
    (at_ ≤ (rightP L at_ n).1 ∧ (rightP L at_ n).1 ≤ at_ + 200 ∧ (rightP L at_ n).2.1.length ≤ 5 ∧ ∀ x ∈ (rightP L at_ n).2.1, x.2.2.2.length ≤ 5) ∧
    I40.run ⟨[.ptr 0 0, .dat tI n], [(0, .box [.dat (.slice tI) L, .dat tI at_])]⟩ = some ⟨[.agg [.slc 2, .dat tI (rightP L at_ n).2.2.1, .dat tI (rightP L at_ n).2.2.2.1, .dat tI (rightP L at_ n).2.2.2.2.1, .dat tI (rightP L at_ n).2.2.2.2.2]],
      [(0, .box [.dat (.slice tI) L, .dat tI (rightP L at_ n).1]), (2, .arr tItem (rightP L at_ n).2.1)]⟩ := by
  obtain ⟨f, hf, a', items, p, q, r, s, rfl, h1, h2, h3, h4⟩ := rp_ends L at_ n h
  refine Classical.epsilon_spec (p := fun p : Int × List Item × Int × Int × Int × Int => (at_ ≤ p.1 ∧ p.1 ≤ at_ + 200 ∧ p.2.1.length ≤ 5 ∧ ∀ x ∈ p.2.1, x.2.2.2.length ≤ 5) ∧
    I40.run ⟨[.ptr 0 0, .dat tI n], [(0, .box [.dat (.slice tI) L, .dat tI at_])]⟩ = some ⟨[.agg [.slc 2, .dat tI p.2.2.1, .dat tI p.2.2.2.1, .dat tI p.2.2.2.2.1, .dat tI p.2.2.2.2.2]], [(0, .box [.dat (.slice tI) L, .dat tI p.1]), (2, .arr tItem p.2.1)]⟩)
    ⟨(a', items, p, q, r, s), ⟨h1, by show a' ≤ _; omega, h3, h4⟩, hf⟩

theorem r40 : R40 := fun a0 L at_ h => (rightP_spec L at_ a0 h).2

end Go.Ev.K

set_option linter.unusedVariables false
set_option linter.unusedSimpArgs false
namespace Go.Ev.K
open Go Go.Ev Go.Proofs
def QAp (L : List Int) (a b : Int) (f : Fr) : Prop := ∃ (a' : Int) (p : Prgm),
  f = ⟨[.dat tPrgm p], [(0, .box [.dat (.slice tI) L, .dat tI a'])]⟩ ∧ a ≤ a' ∧ a' ≤ b ∧ p.1.length ≤ 5

theorem ap_ends (L : List Int) (at_ n : Int) (h : (atOk 2000 at_ && n == 5) = true) :
    Ends (QAp L at_ (at_ + 400)) (I6.run ⟨[.ptr 0 0, .dat tI n], [(0, .box [.dat (.slice tI) L, .dat tI at_])]⟩) := by
  simp only [Bool.and_eq_true] at h
  have h1 := atOk_iff.1 h.1
  have hn : n = 5 := by simpa using h.2
  subst hn
  have hk : (atOk 1000 at_ && decide ((0 : Int) ≤ 5) && decide ((5 : Int) ≤ 5)) = true := by rw [atOk_t h1.1 (by omega)]; rfl
  obtain ⟨⟨s1, s2, s3, s4⟩, _⟩ := rightP_spec L at_ 5 hk
  rw [f6_run]
  refine ends_if hk ?_
  generalize rightP L at_ 5 = P at *
  obtain ⟨a, its, p, q, r, s⟩ := P
  simp only at s1 s2 s3 s4 ⊢
  simp (disch := omega) only [nextAt_s, oddAt]
  have leaf : ∀ (a' : Int) (p : Prgm), at_ ≤ a' → a' ≤ at_ + 400 → p.1.length ≤ 5 → Ends (QAp L at_ (at_ + 400)) (some ⟨[.dat tPrgm p], [(0, .box [.dat (.slice tI) L, .dat tI a'])]⟩) :=
    fun a' p h1 h2 h3 => ends_some ⟨a', p, rfl, h1, h2, h3⟩
  refine ends_if (atOk_t (by omega) (by omega)) (ends_cond (fun _ => ?_) (fun _ => ?_))
  · refine ends_if (atOk_t (by omega) (by omega)) (ends_cond (fun _ => ?_) (fun _ => ends_cond (fun _ => ?_) (fun _ => ends_cond (fun hl => ?_) (fun _ => ?_))))
    · exact ends_if (atOk_t (by omega) (by omega)) (leaf _ _ (by omega) (by omega) s3)
    · exact ends_if (atOk_t (by omega) (by omega)) (ends_if (atOk_t (by omega) (by omega)) (ends_if (atOk_t (by omega) (by omega)) (leaf _ _ (by omega) (by omega) s3)))
    · have hl' : 0 < its.length := by simpa using hl
      obtain ⟨k1, k2⟩ := next_range L (a + 1 + 1) (n := (its.length : Int)) (by omega) (by omega)
      generalize hk : next L (a + 1 + 1) its.length = k at *
      have k3 : Int.toNat k < its.length := by omega
      have k4 : (List.getD its (Int.toNat k) (Tc.dflt tItem)).2.2.2.length ≤ 5 := by
        rw [getI _ _ _ k1 k3]; exact s4 _ (List.getElem_mem ..)
      repeat' first
        | exact leaf _ _ (by omega) (by omega) (by simp only [List.length_set]; exact s3)
        | refine ends_if (atOk_t (by omega) (by omega)) ?_
        | refine ends_if (dT k1) ?_
        | refine ends_if (dT k2) ?_
        | refine ends_if (dT (by simp only [List.length_set]; exact k3)) ?_
        | refine ends_if (dT (by omega)) ?_
        | refine ends_if (atOk_and (by omega) (by omega) rfl rfl) ?_
        | refine ends_if (dT (by simp only [List.length_cons, List.length_nil]; omega)) ?_
    · first
        | exact leaf _ _ (by omega) (by omega) s3
        | exact ends_if (atOk_t (by omega) (by omega)) (leaf _ _ (by omega) (by omega) s3)
  · first
      | exact leaf _ _ (by omega) (by omega) s3
      | exact ends_if (atOk_t (by omega) (by omega)) (leaf _ _ (by omega) (by omega) s3)

theorem aProg_spec (L : List Int) (at_ n : Int) (h : (atOk 2000 at_ && n == 5) = true) :
    (at_ ≤ (aProg L at_ n).1 ∧ (aProg L at_ n).1 ≤ at_ + 400 ∧ (aProg L at_ n).2.1.length ≤ 5) ∧
    I6.run ⟨[.ptr 0 0, .dat tI n], [(0, .box [.dat (.slice tI) L, .dat tI at_])]⟩ = some ⟨[.dat tPrgm (aProg L at_ n).2], [(0, .box [.dat (.slice tI) L, .dat tI (aProg L at_ n).1])]⟩ := by
  obtain ⟨f, hf, a', p, rfl, h1, h2, h3⟩ := ap_ends L at_ n h
  exact Classical.epsilon_spec (p := fun p : Int × Prgm => (at_ ≤ p.1 ∧ p.1 ≤ at_ + 400 ∧ p.2.1.length ≤ 5) ∧
    I6.run ⟨[.ptr 0 0, .dat tI n], [(0, .box [.dat (.slice tI) L, .dat tI at_])]⟩ = some ⟨[.dat tPrgm p.2], [(0, .box [.dat (.slice tI) L, .dat tI p.1])]⟩)
    ⟨(a', p), ⟨h1, h2, h3⟩, hf⟩

theorem r6 : R6 := fun a0 L at_ h => (aProg_spec L at_ a0 h).2

end Go.Ev.K
