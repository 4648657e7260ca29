import Derived.Test.YthfjmlcienfloaaGreatDoorA3
import Derived.IntWalk
import Derived.Lib.Bytealg
import Derived.Lib.SlTrimSet
import Derived.Test.YthfjmlcienfloaaGreatDoorProg
set_option linter.unusedSimpArgs false
set_option linter.unusedVariables false
namespace Go.Ev
open Go

/-! ### short ways to write things -/
abbrev wrap : IntKind → Int → Int := IntKind.wrap
abbrev tI : Tc := .int .i64
def codeOf (f : Func) : Code := f.body.getD .skip

/-- The way to the loop in block t. -/
def stk (t : Nat) : Nat → Code → List It → Option (List It)
  | b, .seq x y, k => match stk t b x (.code b y :: k) with
    | some r => some r
    | none => stk t b y k
  | b, .cond _ x y, k => match stk t b x k with
    | some r => some r
    | none => stk t b y k
  | _, .block i x, k => stk t i x (.blk i :: k)
  | b, .loop x, k => cond (Nat.beq b t) (some (.code b x :: .lp b x :: k)) (stk t b x (.lp b x :: k))
  | _, _, _ => none

noncomputable def FnI.hd (I : FnI) (t : Nat) (fr : Fr) : Option Fr := I.T ((stk t 0 I.code []).getD []) fr

noncomputable def FnI.gd (I : FnI) (t n : Nat) (l : List (Nat × FV)) (r : List (Nat × Reg)) : Option Fr := match (stk t 0 I.code []).getD [] with
  | .code b c :: k => I.GF b c k n l r
  | k => I.T k (mkF n l r)

theorem FnI.hd_eq (I : FnI) (t n : Nat) (l : List (Nat × FV)) (r : List (Nat × Reg)) : I.hd t (mkF n l r) = I.gd t n l r := by
  unfold FnI.hd FnI.gd
  split
  · rename_i b c k h
    rw [h, FnI.GF_eq]; exact I.T_eq b c k _
  · rfl

theorem hdEq {I : FnI} {t n : Nat} {l : List (Nat × FV)} {rg : List (Nat × Reg)} {r : Option Fr} (h : I.gd t n l rg = r) : I.hd t (mkF n l rg) = r := (I.hd_eq t n l rg).trans h

def num0 : Nat → List FV → List (Nat × FV)
  | _, [] => []
  | i, v :: l => (i, v) :: num0 (i + 1) l

noncomputable def FnI.run' (I : FnI) (pk : Fr) : Option Fr :=
  cond (pk.regs.all fun p => Nat.blt p.1 I.pre && !p.2.aux) (cond (Nat.ble pk.slots.length I.fn.ntmps) (I.GF 0 I.code [] I.fn.ntmps (num0 0 pk.slots) pk.regs) (I.T [.code 0 I.code] ⟨pk.slots ++ List.replicate (I.fn.ntmps - pk.slots.length) .undef, pk.regs⟩)) none

theorem mkS_nil : ∀ (n i : Nat), mkS i n [] = List.replicate n .undef
  | 0, i => rfl
  | n + 1, i => by simp only [mkS, List.replicate_succ]; rw [mkS_nil n]

theorem mkS_num0 : ∀ (l : List FV) (i n : Nat), l.length ≤ n → mkS i n (num0 i l) = l ++ List.replicate (n - l.length) .undef
  | [], i, n, h => by simp only [num0, mkS_nil]; rfl
  | v :: l, i, 0, h => by simp at h
  | v :: l, i, n + 1, h => by
    simp only [num0, mkS, List.length_cons]
    rw [show Nat.beq i i = true from by simp]
    simp only [cond_true, List.cons_append]
    rw [mkS_num0 l (i + 1) n (by simpa using h), show n + 1 - (l.length + 1) = n - l.length by omega]

theorem FnI.run_eq (I : FnI) (pk : Fr) : I.run pk = I.run' pk := by
  unfold FnI.run FnI.run'
  cases h : Nat.ble pk.slots.length I.fn.ntmps with
  | false => rfl
  | true =>
    have hle := Nat.le_of_ble_eq_true h
    simp only [cond_true, FnI.GF_eq]
    unfold mkF
    rw [mkS_num0 _ 0 _ hle, I.T_eq]

/-- The way to the range over a function in block t. -/
def stkR (t : Nat) : Nat → Code → List It → Option (Nat × List Tmp × Code × Code × List It)
  | b, .seq x y, k => match stkR t b x (.code b y :: k) with
    | some r => some r
    | none => stkR t b y k
  | b, .cond _ x y, k => match stkR t b x k with
    | some r => some r
    | none => stkR t b y k
  | _, .block i x, k => stkR t i x (.blk i :: k)
  | b, .loop x, k => stkR t b x (.lp b x :: k)
  | b, .rangeFunc _ ps asg body, k => cond (Nat.beq b t) (some (b, ps.toList, asg, body, k)) none
  | _, _, _ => none

/-- What is left to do ahead of a round of a range over a function: rem is what is still to be handed over. -/
noncomputable def FnI.hdR (I : FnI) (t : Nat) (rem : List (List FV)) (fr : Fr) : Option Fr := match stkR t 0 I.code [] with
  | some (b, ps, asg, body, k) => I.T (.rg b ps asg body rem :: k) fr
  | none => none

noncomputable def FnI.H (I : FnI) : List It → Ex → Fr → Option Fr := fun k e fr => match e with | .normal => I.T k fr | e => Ev.T I.E I.C I.pre I.F k e fr

theorem FnI.H_eq (I : FnI) : I.H = Ev.T I.E I.C I.pre I.F := by
  funext k e fr
  cases e <;> rfl

/-- The end of the range: on with the rest. -/
noncomputable def FnI.KF (I : FnI) (k : List It) (n : Nat) (l : List (Nat × FV)) (r : List (Nat × Reg)) : Option Fr :=
  cond (ascB 0 l) (mkTK l .leaf fun t => contSQ I.E I.C I.pre I.FQ I.H k .normal ⟨n, t, r⟩) (contS I.E I.C I.pre I.F I.H k .normal (mkF n l r))

theorem FnI.KF_eq (I : FnI) (k : List It) (n : Nat) (l : List (Nat × FV)) (r : List (Nat × Reg)) : I.KF k n l r = I.T k (mkF n l r) := by
  have h2 : contS I.E I.C I.pre I.F I.H k .normal (mkF n l r) = I.T k (mkF n l r) := by rw [I.H_eq]; exact contS_T k _ _
  unfold FnI.KF
  cases h : ascB 0 l with
  | false => exact h2
  | true =>
    simp only [cond_true, mkTK_eq]
    have h3 := contSQ_eq (E := I.E) (C := I.C) (pre := I.pre) (F := I.FQ) (F' := I.F) (H := I.H) (fun e q => finQ_eq _ _ _ _ e q) k .normal ⟨n, mkT l .leaf, r⟩
    rw [mkF_to n l r h] at h2
    rw [mkF_to n l r h]
    exact h3.trans h2

theorem putS_len : ∀ (ps : List Tmp) (l : List FV) (s : List FV), (putS s ps l).length = s.length
  | [], l, s => by cases l <;> rfl
  | p :: ps, [], s => rfl
  | p :: ps, v :: l, s => by simp only [putS]; rw [putS_len ps l]; simp

noncomputable def FnI.gdR (I : FnI) (t : Nat) (rem : List (List FV)) (n : Nat) (l : List (Nat × FV)) (rg : List (Nat × Reg)) : Option Fr := match stkR t 0 I.code [] with
  | some (b, ps, asg, body, k) => cond (noAux rg) (match rem with
    | [] => I.KF k n l rg
    | v :: rem => I.GF b asg (.rb b body :: .re b (mkS 0 n l) ps asg body rem :: k) (putS (mkS 0 n l) ps v).length (num0 0 (putS (mkS 0 n l) ps v)) rg) none
  | none => none

theorem FnI.hdR_eq (I : FnI) (t : Nat) (rem : List (List FV)) (n : Nat) (l : List (Nat × FV)) (rg : List (Nat × Reg)) : I.hdR t rem (mkF n l rg) = I.gdR t rem n l rg := by
  unfold FnI.hdR FnI.gdR
  cases h : stkR t 0 I.code [] with
  | none => rfl
  | some x =>
    obtain ⟨b, ps, asg, body, k⟩ := x
    simp only
    unfold FnI.T
    rw [T_step]
    cases rem with
    | nil =>
      simp only [stepF]
      rw [FnI.KF_eq]; rfl
    | cons v rem =>
      simp only [stepF]
      rw [FnI.GF_eq, ← I.T_eq]
      have : mkF (putS (mkS 0 n l) ps v).length (num0 0 (putS (mkS 0 n l) ps v)) rg = ⟨putS (mkF n l rg).slots ps v, (mkF n l rg).regs⟩ := by
        unfold mkF
        rw [mkS_num0 _ 0 _ (Nat.le_refl _)]
        simp
      rw [this]; rfl

theorem hdREq {I : FnI} {t : Nat} {rem : List (List FV)} {n : Nat} {l : List (Nat × FV)} {rg : List (Nat × Reg)} {r : Option Fr} (h : I.gdR t rem n l rg = r) : I.hdR t rem (mkF n l rg) = r := (I.hdR_eq t rem n l rg).trans h

theorem enters_of {P : Program} {f : FuncId} {fn : Func} {c : Code} (hf : P.funcs[f]? = some fn) (hb : fn.body = some c) (hn : (fn.name == "runtime.NumGoroutine") = false) : Enters P f := by
  intro args w
  have : fn.name ≠ "runtime.NumGoroutine" := by simpa using hn
  simp [callFunc, hf, hb, this]

/-! ### contracts -/
@[reducible] def Tup : List Tc → Type
  | [] => Unit
  | t :: ts => t.den × Tup ts

def undats : (ts : List Tc) → Tup ts → List FV
  | [], _ => []
  | t :: ts, x => .dat t x.1 :: undats ts x.2

def dats : (ts : List Tc) → List FV → Option (Tup ts)
  | [], [] => some ()
  | t :: ts, .dat t' x :: l => if h : t' = t then (dats ts l).map fun y => (h ▸ x, y) else none
  | _, _ => none

theorem dats_some : ∀ (ts : List Tc) (l : List FV) (x : Tup ts), dats ts l = some x → l = undats ts x
  | [], [], x, h => rfl
  | [], _ :: _, x, h => by simp [dats] at h
  | t :: ts, [], x, h => by simp [dats] at h
  | t :: ts, v :: l, x, h => by
    cases v with
    | dat t' y =>
      simp only [dats] at h
      split at h
      · rename_i e
        subst e
        cases hd : dats ts l with
        | none => rw [hd] at h; cases h
        | some z =>
          rw [hd] at h
          simp only [Option.map_some, Option.some.injEq] at h
          subst h
          simp only [undats, dats_some ts l z hd]
      · cases h
    | _ => simp [dats] at h

/-! ### frames with holes (.undef) for closed data -/
mutual
def matchV : FV → FV → Option (List FV)
  | .undef, v => match v with
    | .dat t x => some [.dat t x]
    | _ => none
  | .ptr k o, v => match v with
    | .ptr k' o' => cond (Nat.beq k k' && Nat.beq o o') (some []) none
    | _ => none
  | .slc k, v => match v with
    | .slc k' => cond (Nat.beq k k') (some []) none
    | _ => none
  | .mp k, v => match v with
    | .mp k' => cond (Nat.beq k k') (some []) none
    | _ => none
  | .nil0, v => match v with
    | .nil0 => some []
    | _ => none
  | .nilp, v => match v with
    | .nilp => some []
    | _ => none
  | .nilm, v => match v with
    | .nilm => some []
    | _ => none
  | .nilf, v => match v with
    | .nilf => some []
    | _ => none
  | .nili, v => match v with
    | .nili => some []
    | _ => none
  | .agg l, v => match v with
    | .agg l' => matchL l l'
    | _ => none
  | .clos f l, v => match v with
    | .clos f' l' => cond (Nat.beq f f') (matchL l l') none
    | _ => none
  | _, _ => none
def matchL : List FV → List FV → Option (List FV)
  | [], l => match l with
    | [] => some []
    | _ => none
  | p :: ps, l => match l with
    | [] => none
    | v :: l => match matchV p v with
      | some a => match matchL ps l with
        | some b => some (a ++ b)
        | none => none
      | none => none
end

mutual
def fillV : FV → List FV → FV × List FV
  | .undef, hs => match hs with
    | h :: hs => (h, hs)
    | [] => (.undef, [])
  | .agg l, hs => (.agg (fillL l hs).1, (fillL l hs).2)
  | .clos f l, hs => (.clos f (fillL l hs).1, (fillL l hs).2)
  | v, hs => (v, hs)
def fillL : List FV → List FV → List FV × List FV
  | [], hs => ([], hs)
  | p :: ps, hs => ((fillV p hs).1 :: (fillL ps (fillV p hs).2).1, (fillL ps (fillV p hs).2).2)
end

def matchR : Reg → Reg → Option (List FV)
  | .box l, r => match r with
    | .box l' => matchL l l'
    | _ => none
  | .arr t _, r => match r with
    | .arr t' xs => if t = t' then some [.dat (.slice t') xs] else none
    | _ => none
  | .frz t _, r => match r with
    | .frz t' xs => if t = t' then some [.dat (.slice t') xs] else none
    | _ => none
  | .map a b _, r => match r with
    | .map a' b' xs => if a = a' ∧ b = b' then some [.dat (.slice (.pair a' b')) xs] else none
    | _ => none
  | _, _ => none

def fillR : Reg → List FV → Reg × List FV
  | .box l, hs => (.box (fillL l hs).1, (fillL l hs).2)
  | .arr t xs, hs => match hs with
    | .dat (.slice t') ys :: hs => (.arr t' ys, hs)
    | _ => (.arr t xs, hs)
  | .frz t xs, hs => match hs with
    | .dat (.slice t') ys :: hs => (.frz t' ys, hs)
    | _ => (.frz t xs, hs)
  | .map a b xs, hs => match hs with
    | .dat (.slice (.pair a' b')) ys :: hs => (.map a' b' ys, hs)
    | _ => (.map a b xs, hs)
  | r, hs => (r, hs)

def matchRs : List (Nat × Reg) → List (Nat × Reg) → Option (List FV)
  | [], l => match l with
    | [] => some []
    | _ => none
  | (i, p) :: ps, l => match l with
    | [] => none
    | (j, r) :: l => cond (Nat.beq i j) (match matchR p r with
      | some a => match matchRs ps l with
        | some b => some (a ++ b)
        | none => none
      | none => none) none

def fillRs : List (Nat × Reg) → List FV → List (Nat × Reg)
  | [], _ => []
  | (i, p) :: ps, hs => (i, (fillR p hs).1) :: fillRs ps (fillR p hs).2

def matchF (p fr : Fr) : Option (List FV) := match matchL p.slots fr.slots with
  | some a => match matchRs p.regs fr.regs with
    | some b => some (a ++ b)
    | none => none
  | none => none

def fillF (p : Fr) (hs : List FV) : Fr := ⟨(fillL p.slots hs).1, fillRs p.regs (fillL p.slots hs).2⟩

theorem beq_ok {a b : Nat} (h : Nat.beq a b = true) : a = b := Nat.eq_of_beq_eq_true h

mutual
theorem fillV_match : ∀ (p v : FV) (hs rest : List FV), matchV p v = some hs → fillV p (hs ++ rest) = (v, rest)
  | .undef, v, hs, rest, h => by
    cases v <;> simp only [matchV] at h <;> first | (cases h; done) | skip
    cases h; rfl
  | .ptr k o, v, hs, rest, h => by
    cases v <;> simp only [matchV] at h <;> first | (cases h; done) | skip
    rename_i k' o'
    cases hb : (Nat.beq k k' && Nat.beq o o') with
    | false => rw [hb] at h; cases h
    | true =>
      rw [hb] at h
      simp only [Bool.and_eq_true] at hb
      rw [beq_ok hb.1, beq_ok hb.2]
      cases h; rfl
  | .slc k, v, hs, rest, h => by
    cases v <;> simp only [matchV] at h <;> first | (cases h; done) | skip
    rename_i k'
    cases hb : Nat.beq k k' with
    | false => rw [hb] at h; cases h
    | true => rw [hb] at h; rw [beq_ok hb]; cases h; rfl
  | .mp k, v, hs, rest, h => by
    cases v <;> simp only [matchV] at h <;> first | (cases h; done) | skip
    rename_i k'
    cases hb : Nat.beq k k' with
    | false => rw [hb] at h; cases h
    | true => rw [hb] at h; rw [beq_ok hb]; cases h; rfl
  | .nil0, v, hs, rest, h => by
    cases v <;> simp only [matchV] at h <;> first | (cases h; done) | skip
    cases h; rfl
  | .nilp, v, hs, rest, h => by
    cases v <;> simp only [matchV] at h <;> first | (cases h; done) | skip
    cases h; rfl
  | .nilm, v, hs, rest, h => by
    cases v <;> simp only [matchV] at h <;> first | (cases h; done) | skip
    cases h; rfl
  | .nilf, v, hs, rest, h => by
    cases v <;> simp only [matchV] at h <;> first | (cases h; done) | skip
    cases h; rfl
  | .nili, v, hs, rest, h => by
    cases v <;> simp only [matchV] at h <;> first | (cases h; done) | skip
    cases h; rfl
  | .agg l, v, hs, rest, h => by
    cases v <;> simp only [matchV] at h <;> first | (cases h; done) | skip
    simp only [fillV, fillL_match l _ hs rest h]
  | .clos f l, v, hs, rest, h => by
    cases v <;> simp only [matchV] at h <;> first | (cases h; done) | skip
    rename_i f' l'
    cases hb : Nat.beq f f' with
    | false => rw [hb] at h; cases h
    | true =>
      rw [hb] at h
      rw [beq_ok hb]
      simp only [fillV, fillL_match l _ hs rest h]
  | .skp, v, hs, rest, h => by simp [matchV] at h
  | .ub, v, hs, rest, h => by simp [matchV] at h
  | .dat t x, v, hs, rest, h => by simp [matchV] at h
  | .ep k i o, v, hs, rest, h => by simp [matchV] at h
  | .fp t x, v, hs, rest, h => by simp [matchV] at h
  | .tup l, v, hs, rest, h => by simp [matchV] at h
theorem fillL_match : ∀ (p l : List FV) (hs rest : List FV), matchL p l = some hs → fillL p (hs ++ rest) = (l, rest)
  | [], l, hs, rest, h => by
    cases l <;> simp only [matchL] at h <;> first | (cases h; done) | skip
    cases h; rfl
  | p :: ps, l, hs, rest, h => by
    cases l with
    | nil => simp [matchL] at h
    | cons v l =>
      simp only [matchL] at h
      cases hv : matchV p v with
      | none => rw [hv] at h; cases h
      | some a =>
        rw [hv] at h
        cases hl : matchL ps l with
        | none => rw [hl] at h; cases h
        | some b =>
          rw [hl] at h
          cases h
          simp only [fillL, List.append_assoc, fillV_match p v a (b ++ rest) hv, fillL_match ps l b rest hl]
end

theorem fillR_match (p r : Reg) (hs rest : List FV) (h : matchR p r = some hs) : fillR p (hs ++ rest) = (r, rest) := by
  cases p with
  | box l =>
    cases r <;> simp only [matchR] at h <;> first | (cases h; done) | skip
    simp only [fillR, fillL_match l _ hs rest h]
  | arr t xs =>
    cases r <;> simp only [matchR] at h <;> first | (cases h; done) | skip
    split at h
    · cases h; rfl
    · cases h
  | frz t xs =>
    cases r <;> simp only [matchR] at h <;> first | (cases h; done) | skip
    split at h
    · cases h; rfl
    · cases h
  | map a b xs =>
    cases r <;> simp only [matchR] at h <;> first | (cases h; done) | skip
    split at h
    · cases h; rfl
    · cases h
  | abs => simp [matchR] at h
  | dead => simp [matchR] at h
  | fwd _ => simp [matchR] at h
  | mit _ _ _ _ _ _ _ => simp [matchR] at h

theorem fillRs_match : ∀ (p l : List (Nat × Reg)) (hs rest : List FV), matchRs p l = some hs → fillRs p (hs ++ rest) = l
  | [], l, hs, rest, h => by
    cases l <;> simp only [matchRs] at h <;> first | (cases h; done) | rfl
  | (i, p) :: ps, l, hs, rest, h => by
    cases l with
    | nil => simp [matchRs] at h
    | cons q l =>
      obtain ⟨j, r⟩ := q
      simp only [matchRs] at h
      cases hb : Nat.beq i j with
      | false => rw [hb] at h; cases h
      | true =>
        rw [hb] at h
        simp only [cond_true] at h
        cases hv : matchR p r with
        | none => rw [hv] at h; cases h
        | some a =>
          rw [hv] at h
          cases hl : matchRs ps l with
          | none => rw [hl] at h; cases h
          | some b =>
            rw [hl] at h
            cases h
            rw [beq_ok hb]
            simp only [fillRs, List.append_assoc, fillR_match p r a (b ++ rest) hv, fillRs_match ps l b rest hl]

theorem fillF_match {p fr : Fr} {hs : List FV} (h : matchF p fr = some hs) : fr = fillF p hs := by
  unfold matchF at h
  cases h1 : matchL p.slots fr.slots with
  | none => rw [h1] at h; cases h
  | some a =>
    rw [h1] at h
    cases h2 : matchRs p.regs fr.regs with
    | none => rw [h2] at h; cases h
    | some b =>
      rw [h2] at h
      cases h
      unfold fillF
      rw [fillL_match _ _ a b h1]
      have := fillRs_match _ _ b [] h2
      rw [List.append_nil] at this
      simp only [this]

/-- A contract: on frames of a form. -/
def genS (md : List Bool) (ret : Bool) (pat : Fr) (ts : List Tc) (ok : Tup ts → Bool) (out : Tup ts → Fr) : Spec where
  md := md
  ret := ret
  ok := fun pk => match matchF pat pk with
    | some hs => match dats ts hs with
      | some x => ok x
      | none => false
    | none => false
  fn := fun pk => match matchF pat pk with
    | some hs => match dats ts hs with
      | some x => some (out x)
      | none => none
    | none => none

theorem gen_of {P : Program} {G : (Nat → Prop) → Array Obj → Prop} {f : FuncId} {md : List Bool} {ret : Bool} {pat : Fr} {ts : List Tc} {ok : Tup ts → Bool} {out : Tup ts → Fr} (R : Fr → Fr → Prop)
    (h : ∀ x, ok x = true → R (fillF pat (undats ts x)) (out x)) : ∀ pk o, (genS md ret pat ts ok out).ok pk = true → (genS md ret pat ts ok out).fn pk = some o → R pk o := by
  intro pk o hok hout
  simp only [genS] at hok hout
  cases hm : matchF pat pk with
  | none => rw [hm] at hok; cases hok
  | some hs =>
    rw [hm] at hok hout
    simp only at hok hout
    cases hd : dats ts hs with
    | none => rw [hd] at hok; cases hok
    | some x =>
      rw [hd] at hok hout
      simp only [Option.some.injEq] at hok hout
      have e1 := fillF_match hm
      have e2 := dats_some ts hs x hd
      rw [e1, e2, ← hout]
      exact h x hok

theorem gen_sound {P : Program} (I : FnI) (hE : EnvOk P I.E) (hm : P.follows .mixedOrders = true) {f : FuncId} (hf : P.funcs[f]? = some I.fn) (hbody : I.fn.body = some I.code)
    (hn : (I.fn.name == "runtime.NumGoroutine") = false) {md : List Bool} {ret : Bool} {pat : Fr} {ts : List Tc} {ok : Tup ts → Bool} {out : Tup ts → Fr}
    (h : ∀ x, ok x = true → I.run (fillF pat (undats ts x)) = some (out x)) : Sound P I.E.gl f (genS md ret pat ts ok out) ∧ Enters P f :=
  ⟨I.sound hE hm hf hbody (gen_of (P := P) (G := I.E.gl) (f := f) (fun pk o => I.run pk = some o) h), enters_of hf hbody hn⟩

/-- Two contracts of one function. -/
def orS (s1 s2 : Spec) : Spec := ⟨s1.md, s1.ret, fun pk => s1.ok pk || s2.ok pk, fun pk => cond (s1.ok pk) (s1.fn pk) (s2.fn pk)⟩

theorem or_sound {P : Program} {G : (Nat → Prop) → Array Obj → Prop} {f : FuncId} {s1 s2 : Spec} (h1 : Sound P G f s1) (h2 : Sound P G f s2) : Sound P G f (orS s1 s2) := by
  intro pk out hok hout
  simp only [orS] at hok hout
  cases hb : s1.ok pk with
  | true => rw [hb] at hout; exact h1 pk out hb hout
  | false =>
    rw [hb] at hok hout
    exact h2 pk out (by simpa using hok) hout

theorem omap_cond {α β : Type} (q : Bool) (a b : Option α) (f : α → β) : (cond q a b).map f = cond q (a.map f) (b.map f) := by cases q <;> rfl
theorem fst_cond {α β : Type} (q : Bool) (a b : α × β) : (cond q a b).1 = cond q a.1 b.1 := by cases q <;> rfl
theorem snd_cond {α β : Type} (q : Bool) (a b : α × β) : (cond q a b).2 = cond q a.2 b.2 := by cases q <;> rfl

/-! ### what is known of a program -/
def ttOf : List (Nat × TI) → Nat → Option TI
  | [], _ => none
  | (i, t) :: l, k => cond (Nat.beq i k) (some t) (ttOf l k)

theorem ttOf_mem : ∀ (l : List (Nat × TI)) (k : Nat) (t : TI), ttOf l k = some t → (k, t) ∈ l
  | [], k, t, h => by cases h
  | (i, x) :: l, k, t, h => by
    simp only [ttOf] at h
    cases hb : Nat.beq i k with
    | true =>
      rw [hb] at h
      have := Nat.eq_of_beq_eq_true hb
      cases h; subst this; simp
    | false => rw [hb] at h; exact List.mem_cons_of_mem _ (ttOf_mem l k t h)

def Env.add (E : Env) (f : FuncId) (s : Spec) : Env := ⟨E.tt, fun g => cond (Nat.beq g f) (some s) (E.fs g), E.gl, E.it⟩

theorem all_okTI {P : Program} {l : List (Nat × TI)} (h : (l.all fun p => okTI P p.1 p.2) = true) {t : Nat} {ti : TI} (hm : (t, ti) ∈ l) : okTI P t ti = true := List.all_eq_true.1 h (t, ti) hm

theorem env_nil {P : Program} {l : List (Nat × TI)} (h : (l.all fun p => okTI P p.1 p.2) = true) : EnvOk P ⟨ttOf l, fun _ => none, fun _ _ => True, fun _ => none⟩ :=
  ⟨fun t ti ht => okTI_spec (all_okTI h (ttOf_mem l t ti ht)), (fun f s hs => by cases hs), fun _ _ _ _ _ _ => trivial, (fun g t hg => by cases hg)⟩

theorem env_add {P : Program} {E : Env} (hE : EnvOk P E) {f : FuncId} {s : Spec} (h : Sound P E.gl f s ∧ Enters P f) : EnvOk P (E.add f s) :=
  ⟨hE.tts, fun g t ht => by
    simp only [Env.add] at ht
    cases hb : Nat.beq g f with
    | true =>
      rw [hb] at ht
      have := Nat.eq_of_beq_eq_true hb
      cases ht; subst this; exact h
    | false => rw [hb] at ht; exact hE.fss g t ht, hE.gm, hE.its⟩

/-- A function that hands over the elements of a slice is made known. -/
def Env.addIt (E : Env) (f : FuncId) (t : Tc) : Env := ⟨E.tt, E.fs, E.gl, fun g => cond (Nat.beq g f) (some t) (E.it g)⟩

theorem env_it {P : Program} {E : Env} (hE : EnvOk P E) {f : FuncId} {t : Tc} (h : BackOK P f t ∧ Enters P f) : EnvOk P (E.addIt f t) :=
  ⟨hE.tts, hE.fss, hE.gm, fun g s hs => by
    simp only [Env.addIt] at hs
    cases hb : Nat.beq g f with
    | true =>
      rw [hb] at hs
      have := Nat.eq_of_beq_eq_true hb
      cases hs; subst this; exact h
    | false => rw [hb] at hs; exact hE.its g s hs⟩

theorem env_or {P : Program} {E : Env} (hE : EnvOk P E) {f : FuncId} {s1 s2 : Spec} (h1 : E.fs f = some s1) (h : Sound P E.gl f s2 ∧ Enters P f) : EnvOk P (E.add f (orS s1 s2)) :=
  env_add hE ⟨or_sound (hE.fss f s1 h1).1 h.1, h.2⟩

end Go.Ev

set_option linter.unusedSimpArgs false
set_option linter.unusedVariables false
namespace Go.Ev
open Go

/-! ### numbers of loops -/
theorem dlt {i n : Nat} (h : i < n) : decide ((i : Int) < (n : Int)) = true := by simp; omega
theorem dlt_not {i n : Nat} (h : n ≤ i) : decide ((i : Int) < (n : Int)) = false := by simp; omega
theorem dle0 (i : Nat) : decide ((0 : Int) ≤ (i : Int)) = true := by simp
theorem wrap_in {x : Int} (h1 : -9223372036854775808 ≤ x) (h2 : x ≤ 9223372036854775807) : wrap .i64 x = x := by
  unfold wrap; rw [IntKind.wrap_i64]; omega
theorem wsucc {i : Nat} (h : i ≤ 4611686018427387904) : wrap .i64 ((i : Int) + 1) = ((i + 1 : Nat) : Int) := by
  rw [wrap_in (by omega) (by omega)]; simp
theorem wrap_range (x : Int) : -9223372036854775808 ≤ wrap .i64 x ∧ wrap .i64 x ≤ 9223372036854775807 := by
  unfold wrap; rw [IntKind.wrap_i64]; omega
theorem getN {α : Type} (xs : List α) (i : Nat) (d : α) (h : i < xs.length) : List.getD xs (Int.toNat (i : Int)) d = xs[i] := by
  rw [Int.toNat_natCast, List.getD_eq_getElem?_getD, List.getElem?_eq_getElem h]; rfl
theorem getI {α : Type} (xs : List α) (i : Int) (d : α) (h0 : 0 ≤ i) (h : i.toNat < xs.length) : List.getD xs (Int.toNat i) d = xs[i.toNat] := by
  rw [List.getD_eq_getElem?_getD, List.getElem?_eq_getElem h]; rfl
theorem dcons {α : Type} {xs : List α} {i : Nat} (h : i < xs.length) : xs.drop i = xs[i] :: xs.drop (i + 1) := List.drop_eq_getElem_cons h
theorem dnil {α : Type} {xs : List α} {i : Nat} (h : xs.length ≤ i) : xs.drop i = [] := List.drop_eq_nil_of_le h
theorem condT {α : Type} {q : Bool} {a b : α} (h : q = true) : cond q a b = a := by rw [h]; rfl
theorem condF {α : Type} {q : Bool} {a b : α} (h : q = false) : cond q a b = b := by rw [h]; rfl
/-- A condition of which both ways lead to one result. -/
theorem condB {α : Type} {q : Bool} {a b c : α} (h1 : q = true → a = c) (h2 : q = false → b = c) : cond q a b = c := by
  cases q
  · exact h2 rfl
  · exact h1 rfl

/-! ### that a run ends -/
def Ends (Q : Fr → Prop) (o : Option Fr) : Prop := ∃ f, o = some f ∧ Q f
theorem ends_some {Q : Fr → Prop} {f : Fr} (h : Q f) : Ends Q (some f) := ⟨f, rfl, h⟩
theorem ends_cond {Q : Fr → Prop} {c : Bool} {a b : Option Fr} (h1 : c = true → Ends Q a) (h2 : c = false → Ends Q b) : Ends Q (cond c a b) := by
  cases c
  · exact h2 rfl
  · exact h1 rfl
theorem ends_if {Q : Fr → Prop} {c : Bool} {a : Option Fr} (h : c = true) (h2 : Ends Q a) : Ends Q (cond c a none) := by rw [h]; exact h2
theorem ends_mono {Q R : Fr → Prop} {o : Option Fr} (h : Ends Q o) (hm : ∀ f, Q f → R f) : Ends R o := by
  obtain ⟨f, h1, h2⟩ := h
  exact ⟨f, h1, hm f h2⟩
theorem dT {p : Prop} [Decidable p] (h : p) : decide p = true := by simp [h]
theorem dF {p : Prop} [Decidable p] (h : ¬ p) : decide p = false := by simp [h]

end Go.Ev

set_option linter.unusedVariables false
set_option linter.unusedSimpArgs false
set_option maxRecDepth 100000
namespace Go.Ev.X
open Go Go.Ev

abbrev tPrgm : Tc := (.st (.pair (.slice (.st (.pair .str (.pair .str (.pair tI (.slice .str)))))) (.pair tI (.pair tI (.pair tI tI)))))
abbrev Prgm : Type := (List (Bytes × (Bytes × (Int × (List Bytes))))) × (Int × (Int × (Int × Int)))
abbrev tWindow : Tc := (.st (.pair tI tI))
abbrev Window : Type := Int × Int
abbrev tTimed : Tc := (.st (.pair .str (.st (.pair tI tI))))
abbrev Timed : Type := Bytes × (Int × Int)
abbrev tItem : Tc := (.st (.pair .str (.pair .str (.pair tI (.slice .str)))))
abbrev Item : Type := Bytes × (Bytes × (Int × (List Bytes)))
abbrev tRank : Tc := (.st (.pair tI (.pair tI (.slice .str))))
abbrev Rank : Type := Int × (Int × (List Bytes))
/-! ### the stream of numbers, and small things -/
def outside (n lo hi : Int) : Bool := decide (n < lo) || decide (n > hi)
def inR (n lo hi : Int) : Bool := decide (lo ≤ n) && decide (n ≤ hi)
def below (x n : Int) : Int := cond (decide (n < 1)) 0 (cond (decide (x.tmod n < 0)) (wrap .i64 (x.tmod n + n)) (x.tmod n))
def idxGo (x : Int) : List Int → Nat → Int
  | [], _ => -1
  | y :: l, i => cond (x == y) (i : Int) (idxGo x l (i + 1))
def indexI (l : List Int) (x : Int) : Int := idxGo x l 0
def containsI (l : List Int) (x : Int) : Bool := decide (indexI l x ≥ 0)
def mx (a b : Int) : Int := if a < b then b else a
def equalI (a b : List Int) : Bool := a == b
def atOk (k at_ : Int) : Bool := decide (0 ≤ at_) && decide (at_ + k ≤ 1099511627776)
def nextAt (at_ : Int) : Int := wrap .i64 (at_ + 1)
def rawNext (L : List Int) (at_ : Int) : Int := cond ((L.length : Int) == 0) (wrap .i64 (wrap .i64 (at_ + 1) * 7919))
  (wrap .i64 (below (L.getD (Int.toNat (Int.tmod at_ L.length)) (Tc.dflt tI)) 1073741824 + wrap .i64 (wrap .i64 (Int.tdiv at_ L.length) * wrap .i64 (7919 + Int.tmod at_ L.length))))
def next (L : List Int) (at_ n : Int) : Int := below (rawNext L at_) n
def pick (L : List Int) (at_ : Int) (l : List Int) : Int := l.getD (Int.toNat (next L at_ l.length)) (Tc.dflt tI)
def rangeAt (at_ lo hi : Int) : Int := cond (decide (hi < lo)) at_ (nextAt at_)
def rangeS (L : List Int) (at_ lo hi : Int) : Int := cond (decide (hi < lo)) lo (wrap .i64 (lo + next L at_ (wrap .i64 (wrap .i64 (hi - lo) + 1))))
def oddL (lo hi : Int) : List Int := [wrap .i64 (lo - 1), wrap .i64 (hi + 1), lo, hi, -1099511627776, 1099511627776]
def oddS (L : List Int) (at_ lo hi : Int) : Int × Int := cond (next L at_ 12 == 0) (nextAt (nextAt at_), pick L (nextAt at_) (oddL lo hi)) (rangeAt (nextAt at_) lo hi, rangeS L (nextAt at_) lo hi)
def some_ (L : List Int) (at_ : Int) (l : List Bytes) : Bytes := l.getD (Int.toNat (next L at_ l.length)) (Tc.dflt .str)
def idxBy {α : Type} (p : α → Bool) : List α → Nat → Int
  | [], _ => -1
  | x :: l, i => cond (p x) (i : Int) (idxBy p l (i + 1))
def indexB (s : Bytes) (c : Int) : Int := Lib.indexByte s c.toNat.toUInt8
def trimB (s cs : Bytes) : Bytes := Lib.trimS s cs
def trimOk (s cs : Bytes) : Bool := decide (s.length ≤ 1000000) && decide (cs.length ≤ 1000) && cs.all fun b => decide (b.toNat < 128)
def smallsB : Bytes := [97, 98, 99, 100, 101, 102, 103, 104, 105, 106, 107, 108, 109, 110, 111, 112, 113, 114, 115, 116, 117, 118, 119, 120, 121, 122]
def keyB : Bytes := [97, 98, 99, 100, 101, 102, 103, 104, 105, 106, 107, 108, 109, 110, 111, 112, 113, 114, 115, 116, 117, 118, 119, 120, 121, 122, 48, 49, 50, 51, 52, 53, 54, 55, 56, 57, 45, 95]
def isKey (s : Bytes) : Bool := !(s == []) && decide ((s.length : Int) ≤ 40) && decide (indexB smallsB ((s.getD 0 0).toNat : Int) ≥ 0) && (trimB s keyB == [])
def onlyB (s cs : Bytes) : Bool := s.all fun b => !decide (indexB cs (b.toNat : Int) < 0)
def keyR (s : Bytes) : Bool := inR (s.length : Int) 1 40 && onlyB (s.take 1) smallsB && onlyB s keyB
def notAfter (prev : Option Bytes) (p : Bytes) : Bool := match prev with
  | some q => bLess p q || p == q
  | none => false
def risingGo (key : Bytes → Bool) (prev : Option Bytes) : List Bytes → Int
  | [] => 0
  | p :: l => cond (!key p) 5 (cond (notAfter prev p) 7 (risingGo key (some p) l))
def partsF (key : Bytes → Bool) (l : List Bytes) : Int := cond ((l.length : Int) == 0) 8 (cond (decide ((l.length : Int) > 12)) 2 (risingGo key none l))
def itemsGo (key : Bytes → Bool) (pre : List Item) : List Item → Int
  | [] => 0
  | x :: l => cond (!key x.1 || !key x.2.1) 5 (cond (pre.any fun o => o.1 == x.1) 6 (cond (outside x.2.2.1 1 86400000) 1 (cond (partsF key x.2.2.2 != 0) (partsF key x.2.2.2) (itemsGo key (pre ++ [x]) l))))
def checkItems (key : Bytes → Bool) (l : List Item) : Int := cond (decide ((l.length : Int) > 60)) 2 (itemsGo key [] l)
def checkProg (key : Bytes → Bool) (p : Prgm) : Int := cond (checkItems key p.1 != 0) (checkItems key p.1)
  (cond (outside p.2.1 0 86400000 || outside p.2.2.1 0 86400000 || outside p.2.2.2.1 0 86400000 || outside p.2.2.2.2 (-1) (mx (-1) (wrap .i64 ((p.1.length : Int) - 2)))) 1 0)
def gapAt (p : Prgm) (i : Int) (x y : Item) : Int := cond (i == p.2.2.2.2) p.2.2.2.1 (cond (!(x.2.1 == y.2.1)) p.2.1 p.2.2.1)
def behindF (p : Prgm) (i : Int) : Int := gapAt p i (p.1.getD i.toNat (Tc.dflt tItem)) (p.1.getD (i + 1).toNat (Tc.dflt tItem))
def begGo (p : Prgm) : Int → Int → List Item → List Int × Int
  | _, at_, [] => ([], at_)
  | _, at_, [x] => ([at_], wrap .i64 (at_ + x.2.2.1))
  | i, at_, x :: y :: l => (at_ :: (begGo p (i + 1) (wrap .i64 (wrap .i64 (at_ + x.2.2.1) + gapAt p i x y)) (y :: l)).1, (begGo p (i + 1) (wrap .i64 (wrap .i64 (at_ + x.2.2.1) + gapAt p i x y)) (y :: l)).2)
def timGo (p : Prgm) : Int → Int → List Item → List Timed
  | _, _, [] => []
  | _, f, [x] => [(x.1, (f, wrap .i64 (f + x.2.2.1)))]
  | i, f, x :: y :: l => (x.1, (f, wrap .i64 (f + x.2.2.1))) :: timGo p (i + 1) (wrap .i64 (wrap .i64 (f + x.2.2.1) + gapAt p i x y)) (y :: l)
def ttGo (f : Int) : List Int → List Item → List Timed
  | b :: bs, x :: l => (x.1, (wrap .i64 (f + b), wrap .i64 (wrap .i64 (f + b) + x.2.2.1))) :: ttGo f bs l
  | _, _ => []
def chGo (half : Int) : Int → List Item → Int → Int
  | i, x :: y :: l, n => chGo half (i + 1) (y :: l) (cond (i != half && !(x.2.1 == y.2.1)) (wrap .i64 (n + 1)) n)
  | _, _, n => n
def isMom (n : Int) : Bool := !outside n 0 345686399999
def fromF (p : Prgm) (f : Int) : Int := cond (checkProg isKey p != 0) (checkProg isKey p) (cond (!isMom f || decide (wrap .i64 (f + (begGo p 0 0 p.1).2) > 345686400000)) 1 0)
def timetable (p : Prgm) (f : Int) : List Timed × Int := cond (fromF p f != 0) ([], fromF p f) (ttGo f (begGo p 0 0 p.1).1 p.1, 0)
def longP (p : Prgm) : Int × Int := cond (checkProg isKey p != 0) (0, checkProg isKey p) ((begGo p 0 0 p.1).2, 0)
def changes (p : Prgm) : Int × Int := cond (checkProg isKey p != 0) (0, checkProg isKey p) (chGo p.2.2.2.2 0 p.1 0, 0)
def longR (p : Prgm) : Int := match (timGo p 0 0 p.1).getLast? with
  | some t => t.2.2
  | none => 0
def beginF (p : Prgm) (f : Int) : Int := cond (!inR f 0 345686399999 || decide (wrap .i64 (f + longR p) > 345686400000)) 1 0
def firstE : List Int → Int
  | [] => 0
  | e :: l => cond (!(e == 0)) e (firstE l)
def cmpI (x y : Int) : Int := cond (decide (x < y)) (-1) (cond (decide (x > y)) 1 0)
def cmpGo : List Int → List Int → Int
  | [], [] => 0
  | [], _ :: _ => -1
  | _ :: _, [] => 1
  | x :: l, y :: m => cond (!(cmpI x y == 0)) (cmpI x y) (cmpGo l m)
def swapG {α : Type} (l : List α) (j : Nat) : List α := match l[j]?, l[j + 1]? with
  | some a, some b => (l.set (j + 1) a).set j b
  | _, _ => l
def ltG {α : Type} (lt : α → α → Bool) (l : List α) (j : Nat) : Bool := match l[j + 1]?, l[j]? with
  | some b, some a => lt b a
  | _, _ => false
def sinkG {α : Type} (lt : α → α → Bool) : Nat → List α → List α
  | 0, l => l
  | j + 1, l => cond (ltG lt l j) (sinkG lt j (swapG l j)) l
def sortGoG {α : Type} (lt : α → α → Bool) : Nat → Nat → List α → List α
  | 0, _, l => l
  | m + 1, i, l => sortGoG lt m (i + 1) (sinkG lt i l)
def sortG {α : Type} (lt : α → α → Bool) (l : List α) : List α := sortGoG lt (l.length - 1) 1 l
def bitS (set : Int) (i : Nat) : Bool := (wrap .i64 ((BitVec.ofInt (IntKind.bits .i64) (Int.fdiv set (2 ^ (min (Int.toNat (i : Int)) (IntKind.bits .i64)))) &&& BitVec.ofInt (IntKind.bits .i64) (1 : Int)).toNat : Int)) == (1 : Int)
def selI (set : Int) : List Item → Nat → List Item
  | [], _ => []
  | x :: l, i => cond (bitS set i) (x :: selI set l (i + 1)) (selI set l (i + 1))
def selP (set : Int) : List Item → Nat → List Int
  | [], _ => []
  | _ :: l, i => cond (bitS set i) ((i : Int) :: selP set l (i + 1)) (selP set l (i + 1))
def alone (p : Prgm) (its : List Item) : Prgm := (its, (p.2.1, (p.2.2.1, (p.2.2.2.1, -1))))
def fitL (p : Prgm) (its : List Item) : Int := (begGo (alone p its) 0 0 its).2
def fitB (best : List Int) (longest most : Int) (pl : List Int) (long : Int) : Bool := decide (long ≤ most) && (decide (best.length < pl.length) || (decide (pl.length = best.length) && (decide (long > longest) || (long == longest && decide (cmpGo pl best < 0)))))
def fitGo (p : Prgm) (most : Int) : Nat → Nat → List Int → Int → List Int
  | 0, _, best, _ => best
  | m + 1, set, best, longest => cond (fitB best longest most (selP set p.1 0) (fitL p (selI set p.1 0))) (fitGo p most m (set + 1) (selP set p.1 0) (fitL p (selI set p.1 0))) (fitGo p most m (set + 1) best longest)
def keyAt (xs : List Item) (i : Int) : Bytes := (xs.getD i.toNat (Tc.dflt tItem)).1
def fitR (p : Prgm) (most : Int) : List Bytes := (fitGo p most (2 ^ p.1.length) 0 [] 0).map (keyAt p.1)
def fitF (p : Prgm) (most : Int) : List Bytes × Int := cond (checkProg isKey p != 0) ([], checkProg isKey p) (cond (outside most 0 5184000000) ([], 1) (fitR p most, 0))
def lastI (p : Prgm) : Item := p.1.getD (p.1.length - 1) (Tc.dflt tItem)
def encL (p : Prgm) (x : Item) : Int := cond (!(x.2.1 == (lastI p).2.1)) (wrap .i64 (x.2.2.1 + p.2.1)) (wrap .i64 (x.2.2.1 + p.2.2.1))
def encLt (p : Prgm) (x y : Item) : Bool := decide (wrap .i64 (encL p y - encL p x) < 0)
def encR (p : Prgm) (left : Int) : List Bytes := (sortG (encLt p) (p.1.filter fun x => !decide (encL p x > left))).map fun o => o.1
def encF (p : Prgm) (left : Int) : List Bytes × Int := cond (checkProg isKey p != 0) ([], checkProg isKey p) (cond (outside left 0 86400000) ([], 1) (cond ((p.1.length : Int) == 0) ([], 8) (encR p left, 0)))
def partsOk (l : List Item) : Bool := l.all fun x => decide (x.2.2.2.length ≤ 1000)
def idxS (x : Bytes) : List Bytes → Nat → Int
  | [], _ => -1
  | y :: l, i => cond (x == y) (i : Int) (idxS x l (i + 1))
def hasS (l : List Bytes) (x : Bytes) : Bool := decide (idxS x l 0 ≥ 0)
def comF (a b : Item) : Bool := a.2.2.2.any fun o => hasS b.2.2.2 o
def pairsF (half : Int) : Int → List Item → Int → Int
  | i, x :: y :: l, n => pairsF half (i + 1) (y :: l) (cond (i != half && comF x y) (wrap .i64 (n + 1)) n)
  | _, _, n => n
def keysI (l : List Item) : List Bytes := l.map fun o => o.1
def rankF (p : Prgm) : Rank := ((begGo p 0 0 p.1).2, (pairsF p.2.2.2.2 0 p.1 0, keysI p.1))
def cmpB (a b : Bytes) : Int := cond (bLess a b) (-1) (cond (!(bLess a b || a == b)) 1 0)
def cmpS : List Bytes → List Bytes → Int
  | [], [] => 0
  | [], _ :: _ => -1
  | _ :: _, [] => 1
  | x :: l, y :: m => cond (!(cmpB x y == 0)) (cmpB x y) (cmpS l m)
def lessR (a b : Rank) : Bool := cond (a.1 != b.1) (decide (a.1 < b.1)) (cond (a.2.1 != b.2.1) (decide (a.2.1 < b.2.1)) (decide (cmpS a.2.2 b.2.2 < 0)))
def updF (r : Rank) (st : Bool × Rank) : Bool × Rank := cond (!st.1 || lessR r st.2) (true, r) st
def swapL (xs : List Item) (i j : Nat) : List Item := (xs.set i (xs.getD j (Tc.dflt tItem))).set j (xs.getD i (Tc.dflt tItem))
def ordF (c : Int × Int × Int × Int) : Nat → List Item → Nat → Bool × Rank → Bool × Rank
  | 0, xs, _, st => updF (rankF (xs, c)) st
  | m + 1, xs, i, st => (List.range' i (m + 1)).foldl (fun st j => ordF c m (swapL xs i j) (i + 1) st) st
def ordS (p : Prgm) : Bool × Rank := ordF p.2 (List.length p.1) p.1 0 (false, (0, (0, [])))
def ordR (p : Prgm) : List Bytes × Int × Int := cond (checkProg isKey p != 0) ([], (0, checkProg isKey p)) ((ordS p).2.2.2, ((ordS p).2.1, 0))
def betR (a b : Prgm) : Bool := cond (cmpGo [longR a, pairsF a.2.2.2.2 0 a.1 0] [longR b, pairsF b.2.2.2.2 0 b.1 0] != 0) (decide (cmpGo [longR a, pairsF a.2.2.2.2 0 a.1 0] [longR b, pairsF b.2.2.2.2 0 b.1 0] < 0)) (decide (cmpS (keysI a.1) (keysI b.1) < 0))
def updQ (q : Prgm) (st : Bool × Prgm) : Bool × Prgm := cond (!st.1 || betR q st.2) (true, q) st
def tryF (its : List Item) (c : Int × Int × Int × Int) : Nat → List Item → Bool × Prgm → Bool × Prgm
  | 0, l, st => updQ (l, c) st
  | m + 1, l, st => its.foldl (fun st x => cond (l.any fun o => o.1 == x.1) st (tryF its c m (l ++ [x]) st)) st
def tryS (p : Prgm) : Bool × Prgm := tryF p.1 p.2 (List.length p.1) [] (false, p)
def bestR (p : Prgm) : List Bytes × Int := (keysI (tryS p).2.1, longR (tryS p).2)
def halfD (p : Prgm) (h : Nat) : Int := mx (wrap .i64 (fitL p (p.1.take (h + 1)) - fitL p (p.1.drop (h + 1)))) (wrap .i64 (fitL p (p.1.drop (h + 1)) - fitL p (p.1.take (h + 1))))
def halfGo (p : Prgm) : Nat → Nat → Int → Int → Int × Int
  | 0, _, b, l => (b, l)
  | m + 1, h, b, l => cond (decide (b < 0)) (halfGo p m (h + 1) h (halfD p h)) (cond (decide (halfD p h < l)) (halfGo p m (h + 1) h (halfD p h)) (halfGo p m (h + 1) b l))
def halfR (p : Prgm) : Int × Int := halfGo p (p.1.length - 1) 0 (-1) 0
def halfP (p : Prgm) : Int × Int × Int := cond (checkProg isKey p != 0) (0, (0, checkProg isKey p)) (cond (decide ((p.1.length : Int) < 2)) (0, (0, 8)) ((halfR p).1, ((halfR p).2, 0)))
def itemIx (xs : List Item) (k : Bytes) : Int := idxBy (fun (o : Item) => o.1 == k) xs 0
def movGo (xs : List Item) : List Bytes → List Bytes → List Item → List Item × Int
  | _, [], acc => (acc, 0)
  | pre, k :: l, acc => cond (decide (itemIx xs k < 0)) ([], 8) (cond (hasS pre k) ([], 6) (movGo xs (pre ++ [k]) l (acc ++ [xs.getD (itemIx xs k).toNat (Tc.dflt tItem)])))
def zeroP : Prgm := ([], (0, (0, (0, 0))))
def movR (p : Prgm) (o : List Bytes) : Prgm × Int := cond ((o.length : Int) != (p.1.length : Int)) (zeroP, 3) (cond ((movGo p.1 [] o []).2 != 0) (zeroP, (movGo p.1 [] o []).2) (((movGo p.1 [] o []).1, p.2), 0))
def movP (p : Prgm) (o : List Bytes) : Prgm × Int := cond (checkProg isKey p != 0) (zeroP, checkProg isKey p) (movR p o)

def t80 (a0 : Item) (k : Bytes) (pl : Bytes) (lg : Int) (ps : (List Bytes)) : Bool := (a0.1 == k)
def t80_0 (a0 : Item) (k : Bytes) (pl : Bytes) (lg : Int) (ps : (List Bytes)) : Bool := (t80 a0 k pl lg ps)
def t79 (a0 : (List Item)) (k : Bytes) (pl : Bytes) (lg : Int) (ps : (List Bytes)) : Option (Bool) := (cond (decide (List.length a0 ≤ 1000)) (some (decide ((idxBy (fun o => t80_0 o k pl lg ps) a0 0) ≥ (0 : Int)))) none)
def t79_ok (a0 : (List Item)) (k : Bytes) (pl : Bytes) (lg : Int) (ps : (List Bytes)) : Bool := (t79 a0 k pl lg ps).isSome
def t79_0 (a0 : (List Item)) (k : Bytes) (pl : Bytes) (lg : Int) (ps : (List Bytes)) : Bool := ((t79 a0 k pl lg ps).getD ((Tc.dflt .bool)))
def t98 (a0 : Prgm) (a1 : Item) (a2 : Item) : Int := (cond (!(a1.2.1 == a2.2.1)) a0.2.1 a0.2.2.1)
def t98_0 (a0 : Prgm) (a1 : Item) (a2 : Item) : Int := (t98 a0 a1 a2)
def t101 (a0 : Bytes) (bk : Bytes) (bp : Bytes) (bl : Int) (bps : (List Bytes)) : Option (Bool) := (cond (decide (List.length bps ≤ 1000)) (some (hasS bps a0)) none)
def t101_ok (a0 : Bytes) (bk : Bytes) (bp : Bytes) (bl : Int) (bps : (List Bytes)) : Bool := (t101 a0 bk bp bl bps).isSome
def t101_0 (a0 : Bytes) (bk : Bytes) (bp : Bytes) (bl : Int) (bps : (List Bytes)) : Bool := ((t101 a0 bk bp bl bps).getD ((Tc.dflt .bool)))
def t100 (a0 : (List Bytes)) (bk : Bytes) (bp : Bytes) (bl : Int) (bps : (List Bytes)) : Option (Bool) := (cond (decide (List.length a0 ≤ 1000) && decide (List.length bps ≤ 1000)) (some (decide ((idxBy (fun o => t101_0 o bk bp bl bps) a0 0) ≥ (0 : Int)))) none)
def t100_ok (a0 : (List Bytes)) (bk : Bytes) (bp : Bytes) (bl : Int) (bps : (List Bytes)) : Bool := (t100 a0 bk bp bl bps).isSome
def t100_0 (a0 : (List Bytes)) (bk : Bytes) (bp : Bytes) (bl : Int) (bps : (List Bytes)) : Bool := ((t100 a0 bk bp bl bps).getD ((Tc.dflt .bool)))
def t119 (a0 : Bytes) : Bool := (!(a0 == a0))
def t119_0 (a0 : Bytes) : Bool := (t119 a0)
def t76 (a0 : Item) (k : Bytes) : Bool := (a0.1 == k)
def t76_0 (a0 : Item) (k : Bytes) : Bool := (t76 a0 k)
def t50 (a0 : Prgm) (a1 : Bytes) : Option (Int) := (cond (decide (List.length a0.1 ≤ 1000)) (some (idxBy (fun o => t76_0 o a1) a0.1 0)) none)
def t50_ok (a0 : Prgm) (a1 : Bytes) : Bool := (t50 a0 a1).isSome
def t50_0 (a0 : Prgm) (a1 : Bytes) : Int := ((t50 a0 a1).getD ((Tc.dflt tI)))
def t51 (a0 : Item) : Option (Item) := (cond (decide (List.length a0.2.2.2 ≤ 1000)) (some (a0.1, (a0.2.1, (a0.2.2.1, (a0.2.2.2))))) none)
def t51_ok (a0 : Item) : Bool := (t51 a0).isSome
def t51_0 (a0 : Item) : Item := ((t51 a0).getD ((Tc.dflt tItem)))
end Go.Ev.X

set_option linter.unusedVariables false
set_option linter.unusedSimpArgs false
set_option maxRecDepth 100000
namespace Go.Ev.X
open Go Go.Ev Go.Proofs

def tab : List (Nat × TI) := [
  (1, ⟨1, false, [.nilf], none, [], none, 8, false, none, none, false⟩),
  (3, ⟨1, false, [dI .i64 0], some tI, [], none, 8, true, none, none, false⟩),
  (4, ⟨1, false, [dB false], some .bool, [], none, 1, true, none, none, false⟩),
  (5, ⟨1, false, [dI .u8 0], some (.int .u8), [], none, 1, true, none, none, false⟩),
  (6, ⟨1, false, [dI .u8 0], some (.int .u8), [], none, 1, true, none, none, false⟩),
  (9, ⟨1, false, [dS []], some .str, [], none, 16, true, none, none, false⟩),
  (12, ⟨1, false, [dI .u64 0], some (.int .u64), [], none, 8, true, none, none, false⟩),
  (17, ⟨1, false, [.nilp], none, [], none, 8, false, some 251, none, false⟩),
  (19, ⟨1, true, [.nilp], none, [(0, 17)], none, 8, false, none, none, false⟩),
  (21, ⟨1, false, [dI .i32 0], some (.int .i32), [], none, 4, true, none, none, false⟩),
  (22, ⟨1, false, [.nil0], some (.slice tI), [], some 3, 24, false, none, none, false⟩),
  (23, ⟨1, false, [.nilp], none, [], none, 8, false, some 25, none, false⟩),
  (24, ⟨2, true, [.nil0, dI .i64 0], some (.st (.pair (.slice tI) tI)), [(0, 22), (1, 3)], none, 32, false, none, none, false⟩),
  (25, ⟨2, true, [.nil0, dI .i64 0], some (.st (.pair (.slice tI) tI)), [(0, 22), (1, 3)], none, 32, false, none, none, false⟩),
  (26, ⟨1, false, [.nil0], some (.slice tItem), [], some 48, 24, false, none, none, false⟩),
  (28, ⟨5, true, [.nil0, dI .i64 0, dI .i64 0, dI .i64 0, dI .i64 0], some tPrgm, [(0, 26), (1, 3), (2, 3), (3, 3), (4, 3)], none, 56, false, none, none, false⟩),
  (30, ⟨1, false, [dI .i64 0], some tI, [], none, 8, true, none, none, false⟩),
  (32, ⟨1, false, [.nilf], none, [], none, 8, false, none, none, false⟩),
  (33, ⟨1, false, [.nilf], none, [], none, 8, false, none, none, false⟩),
  (42, ⟨2, true, [dI .i64 0, dI .i64 0], some tWindow, [(0, 3), (1, 3)], none, 16, true, none, none, false⟩),
  (43, ⟨2, true, [dI .i64 0, dI .i64 0], some tWindow, [(0, 3), (1, 3)], none, 16, true, none, none, false⟩),
  (44, ⟨3, true, [dS [], dI .i64 0, dI .i64 0], some tTimed, [(0, 9), (1, 43)], none, 32, true, none, none, false⟩),
  (45, ⟨3, true, [dS [], dI .i64 0, dI .i64 0], some tTimed, [(0, 9), (1, 43)], none, 32, true, none, none, false⟩),
  (46, ⟨1, false, [.nil0], some (.slice .str), [], some 9, 24, false, none, none, false⟩),
  (47, ⟨4, true, [dS [], dS [], dI .i64 0, .nil0], some tItem, [(0, 9), (1, 9), (2, 3), (3, 46)], none, 64, false, none, none, false⟩),
  (48, ⟨4, true, [dS [], dS [], dI .i64 0, .nil0], some tItem, [(0, 9), (1, 9), (2, 3), (3, 46)], none, 64, false, none, none, false⟩),
  (50, ⟨1, false, [.nilf], none, [], none, 8, false, none, none, false⟩),
  (51, ⟨1, false, [.nilf], none, [], none, 8, false, none, none, false⟩),
  (54, ⟨1, false, [.nilf], none, [], none, 8, false, none, none, false⟩),
  (55, ⟨1, false, [.nilf], none, [], none, 8, false, none, none, false⟩),
  (74, ⟨5, true, [dI .i64 0, dI .i64 0, dI .i64 0, dI .i64 0, dB false], some (.st (.pair tI (.pair tI (.pair tI (.pair tI .bool))))), [(0, 3), (1, 3), (2, 3), (3, 3), (4, 4)], none, 40, false, none, none, false⟩),
  (75, ⟨5, true, [dI .i64 0, dI .i64 0, dI .i64 0, dI .i64 0, dB false], some (.st (.pair tI (.pair tI (.pair tI (.pair tI .bool))))), [(0, 3), (1, 3), (2, 3), (3, 3), (4, 4)], none, 40, false, none, none, false⟩),
  (76, ⟨1, false, [.nil0], some (.slice (.st (.pair tI (.pair tI (.pair tI (.pair tI .bool)))))), [], some 75, 24, false, none, none, false⟩),
  (78, ⟨1, false, [.nilf], none, [], none, 8, false, none, none, false⟩),
  (79, ⟨3, true, [dI .i64 0, dI .i64 0, dI .i64 0], some (.st (.pair tI (.pair tI tI))), [(0, 3), (1, 3), (2, 3)], none, 24, false, none, none, false⟩),
  (80, ⟨3, true, [dI .i64 0, dI .i64 0, dI .i64 0], some (.st (.pair tI (.pair tI tI))), [(0, 3), (1, 3), (2, 3)], none, 24, false, none, none, false⟩),
  (81, ⟨1, false, [.nilf], none, [], none, 8, false, none, none, false⟩),
  (83, ⟨3, true, [dI .i64 0, dS [], dB false], some (.st (.pair tI (.pair .str .bool))), [(0, 3), (1, 9), (2, 4)], none, 32, false, none, none, false⟩),
  (84, ⟨1, false, [.nil0], some (.slice (.st (.pair tI (.pair .str .bool)))), [], some 83, 24, false, none, none, false⟩),
  (87, ⟨10, true, [dS [], dI .i64 0, dI .i64 0, dI .i64 0, dS [], dS [], dI .i64 0, dB false, dS [], dI .i64 0], some (.st (.pair .str (.pair tI (.pair tI (.pair tI (.pair .str (.pair .str (.pair tI (.pair .bool (.pair .str tI)))))))))), [(0, 9), (1, 3), (2, 3), (3, 3), (4, 9), (5, 9), (6, 3), (7, 4), (8, 9), (9, 3)], none, 112, false, none, none, false⟩),
  (88, ⟨1, false, [.nil0], some (.slice (.st (.pair .str (.pair tI (.pair tI (.pair tI (.pair .str (.pair .str (.pair tI (.pair .bool (.pair .str tI))))))))))), [], some 87, 24, false, none, none, false⟩),
  (91, ⟨1, false, [.nil0], some (.slice tI), [], some 30, 24, false, none, none, false⟩),
  (98, ⟨3, true, [dI .i64 0, dI .i64 0, .nil0], some tRank, [(0, 3), (1, 3), (2, 46)], none, 40, false, none, none, false⟩),
  (100, ⟨1, false, [.nilf], none, [], none, 8, false, none, none, false⟩),
  (101, ⟨1, false, [.nilf], none, [], none, 8, false, none, none, false⟩),
  (102, ⟨1, false, [.nilf], none, [], none, 8, false, none, none, false⟩),
  (103, ⟨1, false, [.nilf], none, [], none, 8, false, none, none, false⟩),
  (104, ⟨1, false, [.nilf], none, [], none, 8, false, none, none, false⟩),
  (118, ⟨1, false, [.nilf], none, [], none, 8, false, none, none, false⟩),
  (119, ⟨1, false, [.nilf], none, [], none, 8, false, none, none, false⟩),
  (130, ⟨1, false, [.nilf], none, [], none, 8, false, none, none, false⟩),
  (178, ⟨1, false, [.nilp], none, [], none, 8, false, some 174, none, false⟩)]
noncomputable def En0 : Env := ⟨ttOf tab, fun _ => none, fun _ _ => True, fun _ => none⟩
noncomputable def I54 : FnI := ⟨En0, ⟨[], [], []⟩, Tryz.f54, codeOf Tryz.f54, [.data tI], 0⟩
noncomputable def S54 : Spec := genS [true, true] false ⟨[.undef, .undef], []⟩ [tI, tI] (fun x => true) (fun x => ⟨[.dat tI (below x.1 x.2.1)], []⟩)
noncomputable def En54 : Env := En0.add 54 S54
noncomputable def I33 : FnI := ⟨En54, ⟨[], [], []⟩, Tryz.f33, codeOf Tryz.f33, [.data tI], 1⟩
noncomputable def S33 : Spec := genS [false, true] true ⟨[.ptr 0 0, .undef], [(0, .box [.undef, .undef])]⟩ [tI, (.slice tI), tI] (fun x => atOk 1 x.2.2.1) (fun x => ⟨[.dat tI (next x.2.1 x.2.2.1 x.1)], [(0, .box [.dat (.slice tI) (x.2.1), .dat tI (nextAt x.2.2.1)])]⟩)
noncomputable def En33 : Env := En54.add 33 S33
noncomputable def I30 : FnI := ⟨En33, ⟨[], [], []⟩, Tryz.f30, codeOf Tryz.f30, [.data tI], 1⟩
noncomputable def S30 : Spec := genS [false, true] true ⟨[.ptr 0 0, .undef], [(0, .box [.undef, .undef])]⟩ [(.slice tI), (.slice tI), tI] (fun x => atOk 1 x.2.2.1 && decide (0 < List.length x.1) && decide (List.length x.1 ≤ 1000)) (fun x => ⟨[.dat tI (pick x.2.1 x.2.2.1 x.1)], [(0, .box [.dat (.slice tI) (x.2.1), .dat tI (nextAt x.2.2.1)])]⟩)
noncomputable def En30 : Env := En33.add 30 S30
noncomputable def I31 : FnI := ⟨En30, ⟨[], [], []⟩, Tryz.f31, codeOf Tryz.f31, [.data .bool], 1⟩
noncomputable def S31 : Spec := genS [false, true] true ⟨[.ptr 0 0, .undef], [(0, .box [.undef, .undef])]⟩ [tI, (.slice tI), tI] (fun x => atOk 1 x.2.2.1) (fun x => ⟨[.dat .bool (next x.2.1 x.2.2.1 x.1 == 0)], [(0, .box [.dat (.slice tI) (x.2.1), .dat tI (nextAt x.2.2.1)])]⟩)
noncomputable def En31 : Env := En30.add 31 S31
noncomputable def I32 : FnI := ⟨En31, ⟨[], [], []⟩, Tryz.f32, codeOf Tryz.f32, [.data .str], 1⟩
noncomputable def S32 : Spec := genS [false, true] true ⟨[.ptr 0 0, .undef], [(0, .box [.undef, .undef])]⟩ [(.slice .str), (.slice tI), tI] (fun x => atOk 1 x.2.2.1 && decide (0 < List.length x.1) && decide (List.length x.1 ≤ 1000)) (fun x => ⟨[.dat .str (some_ x.2.1 x.2.2.1 x.1)], [(0, .box [.dat (.slice tI) (x.2.1), .dat tI (nextAt x.2.2.1)])]⟩)
noncomputable def En32 : Env := En31.add 32 S32
noncomputable def I8 : FnI := ⟨En32, ⟨[(0, [0, 4, 5, 23, 24, 25], []), (2, [0, 4, 5, 8, 23, 24, 25, 39, 40, 41], [])], [], [(20, [(0, tItem)]), (38, [(3, .str)])]⟩, Tryz.f8, codeOf Tryz.f8, [.raw], 1⟩
noncomputable def rightP (L : List Int) (at_ n : Int) : Int × List Item × Int × Int × Int × Int := Classical.epsilon fun p => (at_ ≤ p.1 ∧ p.1 ≤ at_ + 200 ∧ p.2.1.length ≤ 5 ∧ (∀ x ∈ p.2.1, x.2.2.2.length ≤ 5) ∧ checkProg isKey p.2 = 0) ∧
  I8.run ⟨[.ptr 0 0, .dat tI n], [(0, .box [.dat (.slice tI) L, .dat tI at_])]⟩ = some ⟨[.agg [.slc 2, .dat tI p.2.2.1, .dat tI p.2.2.2.1, .dat tI p.2.2.2.2.1, .dat tI p.2.2.2.2.2]], [(0, .box [.dat (.slice tI) L, .dat tI p.1]), (2, .arr tItem p.2.1)]⟩
noncomputable def S8 : Spec := genS [false, true] true ⟨[.ptr 0 0, .undef], [(0, .box [.undef, .undef])]⟩ [tI, (.slice tI), tI] (fun x => atOk 1000 x.2.2.1 && decide (0 ≤ x.1) && decide (x.1 ≤ 5)) (fun x => ⟨[.agg [.slc 2, .dat tI ((rightP x.2.1 x.2.2.1 x.1).2.2.1), .dat tI ((rightP x.2.1 x.2.2.1 x.1).2.2.2.1), .dat tI ((rightP x.2.1 x.2.2.1 x.1).2.2.2.2.1), .dat tI ((rightP x.2.1 x.2.2.1 x.1).2.2.2.2.2)]], [(0, .box [.dat (.slice tI) (x.2.1), .dat tI ((rightP x.2.1 x.2.2.1 x.1).1)]), (2, .arr tItem ((rightP x.2.1 x.2.2.1 x.1).2.1))]⟩)
noncomputable def En8 : Env := En32.add 8 S8
noncomputable def S10 : Spec := genS [] false ⟨[], []⟩ [] (fun x => true) (fun x => ⟨[.dat .bool true], []⟩)
noncomputable def En10 : Env := En8.add 10 S10
noncomputable def I42 : FnI := ⟨En10, ⟨[], [], []⟩, Tryz.f42, codeOf Tryz.f42, [.data .bool], 0⟩
noncomputable def S42 : Spec := genS [true, true, true] false ⟨[.undef, .undef, .undef], []⟩ [tI, tI, tI] (fun x => true) (fun x => ⟨[.dat .bool (outside x.1 x.2.1 x.2.2.1)], []⟩)
noncomputable def En42 : Env := En10.add 42 S42
noncomputable def I80 : FnI := ⟨En42, ⟨[], [], []⟩, Tryz.f80, codeOf Tryz.f80, [.data .bool], 1⟩
noncomputable def S80 : Spec := genS [true] true ⟨[.undef, .ptr 0 0], [(0, .box [.undef, .undef, .undef, .undef])]⟩ [tItem, .str, .str, tI, (.slice .str)] (fun x => true) (fun x => ⟨[.dat .bool (t80_0 x.1 x.2.1 x.2.2.1 x.2.2.2.1 x.2.2.2.2.1)], [(0, .box [.dat .str x.2.1, .dat .str x.2.2.1, .dat tI x.2.2.2.1, .dat (.slice .str) x.2.2.2.2.1])]⟩)
noncomputable def En80 : Env := En42.add 80 S80
noncomputable def I44 : FnI := ⟨En80, ⟨[(0, [0, 1, 7, 8], [])], [], []⟩, Tryz.f44, codeOf Tryz.f44, [.data tI], 1⟩
noncomputable def S44 : Spec := genS [false, false] true ⟨[.undef, .clos 80 [.ptr 0 0]], [(0, .box [.undef, .undef, .undef, .undef])]⟩ [(.slice tItem), .str, .str, tI, (.slice .str)] (fun x => decide (List.length x.1 ≤ 1000)) (fun x => ⟨[.dat tI (idxBy (fun o => t80_0 o x.2.1 x.2.2.1 x.2.2.2.1 x.2.2.2.2.1) x.1 0)], [(0, .box [.dat .str (x.2.1), .dat .str (x.2.2.1), .dat tI (x.2.2.2.1), .dat (.slice .str) (x.2.2.2.2.1)])]⟩)
noncomputable def En44 : Env := En80.add 44 S44
noncomputable def I79 : FnI := ⟨En44, ⟨[], [], []⟩, Tryz.f79, codeOf Tryz.f79, [.data .bool], 1⟩
noncomputable def S79 : Spec := genS [true, false] true ⟨[.undef, .clos 80 [.ptr 0 0]], [(0, .box [.undef, .undef, .undef, .undef])]⟩ [(.slice tItem), .str, .str, tI, (.slice .str)] (fun x => t79_ok x.1 x.2.1 x.2.2.1 x.2.2.2.1 x.2.2.2.2.1) (fun x => ⟨[.dat .bool (t79_0 x.1 x.2.1 x.2.2.1 x.2.2.2.1 x.2.2.2.2.1)], [(0, .box [.dat .str x.2.1, .dat .str x.2.2.1, .dat tI x.2.2.2.1, .dat (.slice .str) x.2.2.2.2.1])]⟩)
noncomputable def En79 : Env := En44.add 79 S79
noncomputable def S103 : Spec := genS [true, true] false ⟨[.undef, .undef], []⟩ [.str, (.int .u8)] (fun x => true) (fun x => ⟨[.dat tI (indexB x.1 x.2.1)], []⟩)
noncomputable def En103 : Env := En79.add 103 S103
noncomputable def S104 : Spec := genS [true, true] false ⟨[.undef, .undef], []⟩ [.str, .str] (fun x => trimOk x.1 x.2.1) (fun x => ⟨[.dat .str (trimB x.1 x.2.1)], []⟩)
noncomputable def En104 : Env := En103.add 104 S104
noncomputable def I78 : FnI := ⟨En104, ⟨[], [], []⟩, Tryz.f78, codeOf Tryz.f78, [.data .bool], 0⟩
noncomputable def S78 : Spec := genS [true] false ⟨[.undef], []⟩ [.str] (fun x => true) (fun x => ⟨[.dat .bool (isKey x.1)], []⟩)
noncomputable def En78 : Env := En104.add 78 S78
noncomputable def I81 : FnI := ⟨En78, ⟨[(0, [0, 11, 12, 13], [])], [], []⟩, Tryz.f81, codeOf Tryz.f81, [.data tI], 0⟩
noncomputable def S81 : Spec := genS [true] false ⟨[.undef], []⟩ [(.slice .str)] (fun x => true) (fun x => ⟨[.dat tI (partsF isKey x.1)], []⟩)
noncomputable def En81 : Env := En78.add 81 S81
noncomputable def I55 : FnI := ⟨En81, ⟨[(0, [0, 9, 10, 11], [])], [], []⟩, Tryz.f55, codeOf Tryz.f55, [.data tI], 0⟩
noncomputable def S55 : Spec := genS [true] false ⟨[.undef], []⟩ [(.slice tItem)] (fun x => true) (fun x => ⟨[.dat tI (checkItems isKey x.1)], []⟩)
noncomputable def En55 : Env := En81.add 55 S55
noncomputable def I34 : FnI := ⟨En55, ⟨[], [], []⟩, Tryz.f34, codeOf Tryz.f34, [.data tI], 0⟩
noncomputable def S34 : Spec := genS [true] false ⟨[.undef], []⟩ [tPrgm] (fun x => true) (fun x => ⟨[.dat tI (checkProg isKey x.1)], []⟩)
noncomputable def En34 : Env := En55.add 34 S34
noncomputable def I98 : FnI := ⟨En34, ⟨[], [], []⟩, Tryz.f98, codeOf Tryz.f98, [.data tI], 0⟩
noncomputable def S98 : Spec := genS [true, true, true] false ⟨[.undef, .undef, .undef], []⟩ [tPrgm, tItem, tItem] (fun x => true) (fun x => ⟨[.dat tI (t98_0 x.1 x.2.1 x.2.2.1)], []⟩)
noncomputable def En98 : Env := En34.add 98 S98
noncomputable def I72 : FnI := ⟨En98, ⟨[], [], []⟩, Tryz.f72, codeOf Tryz.f72, [.data tI], 0⟩
noncomputable def S72 : Spec := genS [true, true] false ⟨[.undef, .undef], []⟩ [tPrgm, tI] (fun x => decide (0 ≤ x.2.1) && decide (x.2.1 + 1 < (List.length x.1.1 : Int)) && decide (List.length x.1.1 ≤ 1000)) (fun x => ⟨[.dat tI (behindF x.1 x.2.1)], []⟩)
noncomputable def En72 : Env := En98.add 72 S72
noncomputable def I40 : FnI := ⟨En72, ⟨[(0, [1, 4, 5, 9, 10, 11], [(4, tI)])], [], []⟩, Tryz.f40, codeOf Tryz.f40, [.own tI, .data tI], 0⟩
noncomputable def S40 : Spec := genS [true] false ⟨[.undef], []⟩ [tPrgm] (fun x => decide (List.length x.1.1 ≤ 1000)) (fun x => ⟨[.slc 0, .dat tI ((begGo x.1 0 0 x.1.1).2)], [(0, .arr tI ((begGo x.1 0 0 x.1.1).1))]⟩)
noncomputable def En40 : Env := En72.add 40 S40
noncomputable def I11 : FnI := ⟨En40, ⟨[], [], []⟩, Tryz.f11, codeOf Tryz.f11, [.data tI, .data tI], 0⟩
noncomputable def S11 : Spec := genS [true] false ⟨[.undef], []⟩ [tPrgm] (fun x => true) (fun x => ⟨[.dat tI ((longP x.1).1), .dat tI ((longP x.1).2)], []⟩)
noncomputable def En11 : Env := En40.add 11 S11
noncomputable def I12 : FnI := ⟨En11, ⟨[(0, [5, 6, 7], [])], [], []⟩, Tryz.f12, codeOf Tryz.f12, [.data tI], 0⟩
noncomputable def S12 : Spec := genS [true] false ⟨[.undef], []⟩ [(.slice tI)] (fun x => decide (List.length x.1 ≤ 1000)) (fun x => ⟨[.dat tI (firstE x.1)], []⟩)
noncomputable def En12 : Env := En11.add 12 S12
noncomputable def I45 : FnI := ⟨En12, ⟨[(0, [0, 1, 7, 8], [])], [], []⟩, Tryz.f45, codeOf Tryz.f45, [.data tI], 0⟩
noncomputable def S45 : Spec := genS [true, true] false ⟨[.undef, .undef], []⟩ [(.slice .str), .str] (fun x => decide (List.length x.1 ≤ 1000)) (fun x => ⟨[.dat tI (idxS x.2.1 x.1 0)], []⟩)
noncomputable def En45 : Env := En12.add 45 S45
noncomputable def I21 : FnI := ⟨En45, ⟨[], [], []⟩, Tryz.f21, codeOf Tryz.f21, [.data .bool], 0⟩
noncomputable def S21 : Spec := genS [true, true] false ⟨[.undef, .undef], []⟩ [(.slice .str), .str] (fun x => decide (List.length x.1 ≤ 1000)) (fun x => ⟨[.dat .bool (hasS x.1 x.2.1)], []⟩)
noncomputable def En21 : Env := En45.add 21 S21
noncomputable def I101 : FnI := ⟨En21, ⟨[], [], []⟩, Tryz.f101, codeOf Tryz.f101, [.data .bool], 1⟩
noncomputable def S101 : Spec := genS [true] true ⟨[.undef, .ptr 0 0], [(0, .box [.undef, .undef, .undef, .undef])]⟩ [.str, .str, .str, tI, (.slice .str)] (fun x => t101_ok x.1 x.2.1 x.2.2.1 x.2.2.2.1 x.2.2.2.2.1) (fun x => ⟨[.dat .bool (t101_0 x.1 x.2.1 x.2.2.1 x.2.2.2.1 x.2.2.2.2.1)], [(0, .box [.dat .str x.2.1, .dat .str x.2.2.1, .dat tI x.2.2.2.1, .dat (.slice .str) x.2.2.2.2.1])]⟩)
noncomputable def En101 : Env := En21.add 101 S101
noncomputable def I118 : FnI := ⟨En101, ⟨[(0, [0, 1, 7, 8], [])], [], []⟩, Tryz.f118, codeOf Tryz.f118, [.data tI], 1⟩
noncomputable def S118 : Spec := genS [true, false] true ⟨[.undef, .clos 101 [.ptr 0 0]], [(0, .box [.undef, .undef, .undef, .undef])]⟩ [(.slice .str), .str, .str, tI, (.slice .str)] (fun x => decide (List.length x.1 ≤ 1000) && decide (List.length x.2.2.2.2.1 ≤ 1000)) (fun x => ⟨[.dat tI (idxBy (fun o => t101_0 o x.2.1 x.2.2.1 x.2.2.2.1 x.2.2.2.2.1) x.1 0)], [(0, .box [.dat .str (x.2.1), .dat .str (x.2.2.1), .dat tI (x.2.2.2.1), .dat (.slice .str) (x.2.2.2.2.1)])]⟩)
noncomputable def En118 : Env := En101.add 118 S118
noncomputable def I100 : FnI := ⟨En118, ⟨[], [], []⟩, Tryz.f100, codeOf Tryz.f100, [.data .bool], 1⟩
noncomputable def S100 : Spec := genS [true, false] true ⟨[.undef, .clos 101 [.ptr 0 0]], [(0, .box [.undef, .undef, .undef, .undef])]⟩ [(.slice .str), .str, .str, tI, (.slice .str)] (fun x => t100_ok x.1 x.2.1 x.2.2.1 x.2.2.2.1 x.2.2.2.2.1) (fun x => ⟨[.dat .bool (t100_0 x.1 x.2.1 x.2.2.1 x.2.2.2.1 x.2.2.2.2.1)], [(0, .box [.dat .str x.2.1, .dat .str x.2.2.1, .dat tI x.2.2.2.1, .dat (.slice .str) x.2.2.2.2.1])]⟩)
noncomputable def En100 : Env := En118.add 100 S100
noncomputable def I74 : FnI := ⟨En100, ⟨[], [], []⟩, Tryz.f74, codeOf Tryz.f74, [.data .bool], 0⟩
noncomputable def S74 : Spec := genS [true, true] false ⟨[.undef, .undef], []⟩ [tItem, tItem] (fun x => decide (List.length x.1.2.2.2 ≤ 1000) && decide (List.length x.2.1.2.2.2 ≤ 1000)) (fun x => ⟨[.dat .bool (comF x.1 x.2.1)], []⟩)
noncomputable def En74 : Env := En100.add 74 S74
noncomputable def I48 : FnI := ⟨En74, ⟨[(0, [1, 2, 3, 13, 14, 15], [])], [], [(1, [(0, tItem)]), (2, [(2, .str)]), (3, [(2, .str)]), (5, [(3, .str)])]⟩, Tryz.f48, codeOf Tryz.f48, [.raw], 0⟩
noncomputable def S48 : Spec := genS [true] false ⟨[.undef], []⟩ [tPrgm] (fun x => decide (List.length x.1.1 ≤ 1000) && partsOk x.1.1) (fun x => ⟨[.agg [.dat tI (rankF x.1).1, .dat tI (rankF x.1).2.1, .slc 0]], [(0, .arr .str ((rankF x.1).2.2))]⟩)
noncomputable def En48 : Env := En74.add 48 S48
noncomputable def I119 : FnI := ⟨En48, ⟨[], [], []⟩, Tryz.f119, codeOf Tryz.f119, [.data .bool], 0⟩
noncomputable def S119 : Spec := genS [true] false ⟨[.undef], []⟩ [.str] (fun x => true) (fun x => ⟨[.dat .bool (t119_0 x.1)], []⟩)
noncomputable def En119 : Env := En48.add 119 S119
noncomputable def I102 : FnI := ⟨En119, ⟨[], [], []⟩, Tryz.f102, codeOf Tryz.f102, [.data tI], 0⟩
noncomputable def S102 : Spec := genS [true, true] false ⟨[.undef, .undef], []⟩ [.str, .str] (fun x => true) (fun x => ⟨[.dat tI (cmpB x.1 x.2.1)], []⟩)
noncomputable def En102 : Env := En119.add 102 S102
noncomputable def I75 : FnI := ⟨En102, ⟨[(0, [0, 1, 9, 10, 11], [])], [], []⟩, Tryz.f75, codeOf Tryz.f75, [.data tI], 0⟩
noncomputable def S75 : Spec := genS [true, true] false ⟨[.undef, .undef], []⟩ [(.slice .str), (.slice .str)] (fun x => decide (List.length x.1 ≤ 1000)) (fun x => ⟨[.dat tI (cmpS x.1 x.2.1)], []⟩)
noncomputable def En75 : Env := En102.add 75 S75
noncomputable def I49 : FnI := ⟨En75, ⟨[], [], []⟩, Tryz.f49, codeOf Tryz.f49, [.data .bool], 0⟩
noncomputable def S49 : Spec := genS [true, true] false ⟨[.undef, .undef], []⟩ [tRank, tRank] (fun x => decide (List.length x.1.2.2 ≤ 1000)) (fun x => ⟨[.dat .bool (lessR x.1 x.2.1)], []⟩)
noncomputable def En49 : Env := En75.add 49 S49
noncomputable def I47 : FnI := ⟨En49, ⟨[], [200013], []⟩, Tryz.f47, codeOf Tryz.f47, [], 4⟩
noncomputable def S47 : Spec := genS [] true ⟨[.ptr 0 0, .ptr 1 0, .ptr 2 0], [(0, .box [.slc 3, .undef, .undef, .undef, .undef]), (1, .box [.undef]), (2, .box [.undef, .undef, .undef]), (3, .arr tItem [])]⟩ [tI, tI, tI, tI, .bool, tI, tI, (.slice .str), (.slice tItem)] (fun x => decide (List.length x.2.2.2.2.2.2.2.2.1 ≤ 1000) && partsOk x.2.2.2.2.2.2.2.2.1) (fun x => ⟨[], [(0, .box [.slc 3, .dat tI (x.1), .dat tI (x.2.1), .dat tI (x.2.2.1), .dat tI (x.2.2.2.1)]), (1, .box [.dat .bool ((updF (rankF (x.2.2.2.2.2.2.2.2.1, (x.1, (x.2.1, (x.2.2.1, x.2.2.2.1))))) (x.2.2.2.2.1, (x.2.2.2.2.2.1, (x.2.2.2.2.2.2.1, x.2.2.2.2.2.2.2.1)))).1)]), (2, .box [.dat tI ((updF (rankF (x.2.2.2.2.2.2.2.2.1, (x.1, (x.2.1, (x.2.2.1, x.2.2.2.1))))) (x.2.2.2.2.1, (x.2.2.2.2.2.1, (x.2.2.2.2.2.2.1, x.2.2.2.2.2.2.2.1)))).2.1), .dat tI ((updF (rankF (x.2.2.2.2.2.2.2.2.1, (x.1, (x.2.1, (x.2.2.1, x.2.2.2.1))))) (x.2.2.2.2.1, (x.2.2.2.2.2.1, (x.2.2.2.2.2.2.1, x.2.2.2.2.2.2.2.1)))).2.2.1), .dat (.slice .str) ((updF (rankF (x.2.2.2.2.2.2.2.2.1, (x.1, (x.2.1, (x.2.2.1, x.2.2.2.1))))) (x.2.2.2.2.1, (x.2.2.2.2.2.1, (x.2.2.2.2.2.2.1, x.2.2.2.2.2.2.2.1)))).2.2.2)]), (3, .arr tItem (x.2.2.2.2.2.2.2.2.1))]⟩)
noncomputable def En47 : Env := En49.add 47 S47
noncomputable def I46 : FnI := ⟨En47, ⟨[(0, [0, 1, 2, 6], [])], [], []⟩, Tryz.f46, codeOf Tryz.f46, [], 4⟩
noncomputable def S46 : Spec := genS [false, true, false] true ⟨[.slc 0, .undef, .clos 47 [.ptr 1 0, .ptr 2 0, .ptr 3 0]], [(0, .arr tItem []), (1, .box [.slc 0, .undef, .undef, .undef, .undef]), (2, .box [.undef]), (3, .box [.undef, .undef, .undef])]⟩ [tI, (.slice tItem), tI, tI, tI, tI, .bool, tI, tI, (.slice .str)] (fun x => decide (0 ≤ x.1) && decide (x.1 ≤ (List.length x.2.1 : Int)) && decide ((List.length x.2.1 : Int) - x.1 ≤ 0) && partsOk x.2.1 && decide (List.length x.2.1 ≤ 5)) (fun x => ⟨[], [(0, .arr tItem (x.2.1)), (1, .box [.slc 0, .dat tI (x.2.2.1), .dat tI (x.2.2.2.1), .dat tI (x.2.2.2.2.1), .dat tI (x.2.2.2.2.2.1)]), (2, .box [.dat .bool ((ordF (x.2.2.1, (x.2.2.2.1, (x.2.2.2.2.1, x.2.2.2.2.2.1))) (List.length x.2.1 - Int.toNat x.1) x.2.1 (Int.toNat x.1) (x.2.2.2.2.2.2.1, (x.2.2.2.2.2.2.2.1, (x.2.2.2.2.2.2.2.2.1, x.2.2.2.2.2.2.2.2.2.1)))).1)]), (3, .box [.dat tI ((ordF (x.2.2.1, (x.2.2.2.1, (x.2.2.2.2.1, x.2.2.2.2.2.1))) (List.length x.2.1 - Int.toNat x.1) x.2.1 (Int.toNat x.1) (x.2.2.2.2.2.2.1, (x.2.2.2.2.2.2.2.1, (x.2.2.2.2.2.2.2.2.1, x.2.2.2.2.2.2.2.2.2.1)))).2.1), .dat tI ((ordF (x.2.2.1, (x.2.2.2.1, (x.2.2.2.2.1, x.2.2.2.2.2.1))) (List.length x.2.1 - Int.toNat x.1) x.2.1 (Int.toNat x.1) (x.2.2.2.2.2.2.1, (x.2.2.2.2.2.2.2.1, (x.2.2.2.2.2.2.2.2.1, x.2.2.2.2.2.2.2.2.2.1)))).2.2.1), .dat (.slice .str) ((ordF (x.2.2.1, (x.2.2.2.1, (x.2.2.2.2.1, x.2.2.2.2.2.1))) (List.length x.2.1 - Int.toNat x.1) x.2.1 (Int.toNat x.1) (x.2.2.2.2.2.2.1, (x.2.2.2.2.2.2.2.1, (x.2.2.2.2.2.2.2.2.1, x.2.2.2.2.2.2.2.2.2.1)))).2.2.2)])]⟩)
noncomputable def En46 : Env := En47.add 46 S46
noncomputable def I46a : FnI := ⟨En46, ⟨[(0, [0, 1, 2, 6], [])], [], []⟩, Tryz.f46, codeOf Tryz.f46, [], 4⟩
noncomputable def S46a : Spec := genS [false, true, false] true ⟨[.slc 0, .undef, .clos 47 [.ptr 1 0, .ptr 2 0, .ptr 3 0]], [(0, .arr tItem []), (1, .box [.slc 0, .undef, .undef, .undef, .undef]), (2, .box [.undef]), (3, .box [.undef, .undef, .undef])]⟩ [tI, (.slice tItem), tI, tI, tI, tI, .bool, tI, tI, (.slice .str)] (fun x => decide (0 ≤ x.1) && decide (x.1 ≤ (List.length x.2.1 : Int)) && decide ((List.length x.2.1 : Int) - x.1 ≤ 1) && partsOk x.2.1 && decide (List.length x.2.1 ≤ 5)) (fun x => ⟨[], [(0, .arr tItem (x.2.1)), (1, .box [.slc 0, .dat tI (x.2.2.1), .dat tI (x.2.2.2.1), .dat tI (x.2.2.2.2.1), .dat tI (x.2.2.2.2.2.1)]), (2, .box [.dat .bool ((ordF (x.2.2.1, (x.2.2.2.1, (x.2.2.2.2.1, x.2.2.2.2.2.1))) (List.length x.2.1 - Int.toNat x.1) x.2.1 (Int.toNat x.1) (x.2.2.2.2.2.2.1, (x.2.2.2.2.2.2.2.1, (x.2.2.2.2.2.2.2.2.1, x.2.2.2.2.2.2.2.2.2.1)))).1)]), (3, .box [.dat tI ((ordF (x.2.2.1, (x.2.2.2.1, (x.2.2.2.2.1, x.2.2.2.2.2.1))) (List.length x.2.1 - Int.toNat x.1) x.2.1 (Int.toNat x.1) (x.2.2.2.2.2.2.1, (x.2.2.2.2.2.2.2.1, (x.2.2.2.2.2.2.2.2.1, x.2.2.2.2.2.2.2.2.2.1)))).2.1), .dat tI ((ordF (x.2.2.1, (x.2.2.2.1, (x.2.2.2.2.1, x.2.2.2.2.2.1))) (List.length x.2.1 - Int.toNat x.1) x.2.1 (Int.toNat x.1) (x.2.2.2.2.2.2.1, (x.2.2.2.2.2.2.2.1, (x.2.2.2.2.2.2.2.2.1, x.2.2.2.2.2.2.2.2.2.1)))).2.2.1), .dat (.slice .str) ((ordF (x.2.2.1, (x.2.2.2.1, (x.2.2.2.2.1, x.2.2.2.2.2.1))) (List.length x.2.1 - Int.toNat x.1) x.2.1 (Int.toNat x.1) (x.2.2.2.2.2.2.1, (x.2.2.2.2.2.2.2.1, (x.2.2.2.2.2.2.2.2.1, x.2.2.2.2.2.2.2.2.2.1)))).2.2.2)])]⟩)
noncomputable def En46a : Env := En46.add 46 S46a
noncomputable def I46b : FnI := ⟨En46a, ⟨[(0, [0, 1, 2, 6], [])], [], []⟩, Tryz.f46, codeOf Tryz.f46, [], 4⟩
noncomputable def S46b : Spec := genS [false, true, false] true ⟨[.slc 0, .undef, .clos 47 [.ptr 1 0, .ptr 2 0, .ptr 3 0]], [(0, .arr tItem []), (1, .box [.slc 0, .undef, .undef, .undef, .undef]), (2, .box [.undef]), (3, .box [.undef, .undef, .undef])]⟩ [tI, (.slice tItem), tI, tI, tI, tI, .bool, tI, tI, (.slice .str)] (fun x => decide (0 ≤ x.1) && decide (x.1 ≤ (List.length x.2.1 : Int)) && decide ((List.length x.2.1 : Int) - x.1 ≤ 2) && partsOk x.2.1 && decide (List.length x.2.1 ≤ 5)) (fun x => ⟨[], [(0, .arr tItem (x.2.1)), (1, .box [.slc 0, .dat tI (x.2.2.1), .dat tI (x.2.2.2.1), .dat tI (x.2.2.2.2.1), .dat tI (x.2.2.2.2.2.1)]), (2, .box [.dat .bool ((ordF (x.2.2.1, (x.2.2.2.1, (x.2.2.2.2.1, x.2.2.2.2.2.1))) (List.length x.2.1 - Int.toNat x.1) x.2.1 (Int.toNat x.1) (x.2.2.2.2.2.2.1, (x.2.2.2.2.2.2.2.1, (x.2.2.2.2.2.2.2.2.1, x.2.2.2.2.2.2.2.2.2.1)))).1)]), (3, .box [.dat tI ((ordF (x.2.2.1, (x.2.2.2.1, (x.2.2.2.2.1, x.2.2.2.2.2.1))) (List.length x.2.1 - Int.toNat x.1) x.2.1 (Int.toNat x.1) (x.2.2.2.2.2.2.1, (x.2.2.2.2.2.2.2.1, (x.2.2.2.2.2.2.2.2.1, x.2.2.2.2.2.2.2.2.2.1)))).2.1), .dat tI ((ordF (x.2.2.1, (x.2.2.2.1, (x.2.2.2.2.1, x.2.2.2.2.2.1))) (List.length x.2.1 - Int.toNat x.1) x.2.1 (Int.toNat x.1) (x.2.2.2.2.2.2.1, (x.2.2.2.2.2.2.2.1, (x.2.2.2.2.2.2.2.2.1, x.2.2.2.2.2.2.2.2.2.1)))).2.2.1), .dat (.slice .str) ((ordF (x.2.2.1, (x.2.2.2.1, (x.2.2.2.2.1, x.2.2.2.2.2.1))) (List.length x.2.1 - Int.toNat x.1) x.2.1 (Int.toNat x.1) (x.2.2.2.2.2.2.1, (x.2.2.2.2.2.2.2.1, (x.2.2.2.2.2.2.2.2.1, x.2.2.2.2.2.2.2.2.2.1)))).2.2.2)])]⟩)
noncomputable def En46b : Env := En46a.add 46 S46b
noncomputable def I46c : FnI := ⟨En46b, ⟨[(0, [0, 1, 2, 6], [])], [], []⟩, Tryz.f46, codeOf Tryz.f46, [], 4⟩
noncomputable def S46c : Spec := genS [false, true, false] true ⟨[.slc 0, .undef, .clos 47 [.ptr 1 0, .ptr 2 0, .ptr 3 0]], [(0, .arr tItem []), (1, .box [.slc 0, .undef, .undef, .undef, .undef]), (2, .box [.undef]), (3, .box [.undef, .undef, .undef])]⟩ [tI, (.slice tItem), tI, tI, tI, tI, .bool, tI, tI, (.slice .str)] (fun x => decide (0 ≤ x.1) && decide (x.1 ≤ (List.length x.2.1 : Int)) && decide ((List.length x.2.1 : Int) - x.1 ≤ 3) && partsOk x.2.1 && decide (List.length x.2.1 ≤ 5)) (fun x => ⟨[], [(0, .arr tItem (x.2.1)), (1, .box [.slc 0, .dat tI (x.2.2.1), .dat tI (x.2.2.2.1), .dat tI (x.2.2.2.2.1), .dat tI (x.2.2.2.2.2.1)]), (2, .box [.dat .bool ((ordF (x.2.2.1, (x.2.2.2.1, (x.2.2.2.2.1, x.2.2.2.2.2.1))) (List.length x.2.1 - Int.toNat x.1) x.2.1 (Int.toNat x.1) (x.2.2.2.2.2.2.1, (x.2.2.2.2.2.2.2.1, (x.2.2.2.2.2.2.2.2.1, x.2.2.2.2.2.2.2.2.2.1)))).1)]), (3, .box [.dat tI ((ordF (x.2.2.1, (x.2.2.2.1, (x.2.2.2.2.1, x.2.2.2.2.2.1))) (List.length x.2.1 - Int.toNat x.1) x.2.1 (Int.toNat x.1) (x.2.2.2.2.2.2.1, (x.2.2.2.2.2.2.2.1, (x.2.2.2.2.2.2.2.2.1, x.2.2.2.2.2.2.2.2.2.1)))).2.1), .dat tI ((ordF (x.2.2.1, (x.2.2.2.1, (x.2.2.2.2.1, x.2.2.2.2.2.1))) (List.length x.2.1 - Int.toNat x.1) x.2.1 (Int.toNat x.1) (x.2.2.2.2.2.2.1, (x.2.2.2.2.2.2.2.1, (x.2.2.2.2.2.2.2.2.1, x.2.2.2.2.2.2.2.2.2.1)))).2.2.1), .dat (.slice .str) ((ordF (x.2.2.1, (x.2.2.2.1, (x.2.2.2.2.1, x.2.2.2.2.2.1))) (List.length x.2.1 - Int.toNat x.1) x.2.1 (Int.toNat x.1) (x.2.2.2.2.2.2.1, (x.2.2.2.2.2.2.2.1, (x.2.2.2.2.2.2.2.2.1, x.2.2.2.2.2.2.2.2.2.1)))).2.2.2)])]⟩)
noncomputable def En46c : Env := En46b.add 46 S46c
noncomputable def I46d : FnI := ⟨En46c, ⟨[(0, [0, 1, 2, 6], [])], [], []⟩, Tryz.f46, codeOf Tryz.f46, [], 4⟩
noncomputable def S46d : Spec := genS [false, true, false] true ⟨[.slc 0, .undef, .clos 47 [.ptr 1 0, .ptr 2 0, .ptr 3 0]], [(0, .arr tItem []), (1, .box [.slc 0, .undef, .undef, .undef, .undef]), (2, .box [.undef]), (3, .box [.undef, .undef, .undef])]⟩ [tI, (.slice tItem), tI, tI, tI, tI, .bool, tI, tI, (.slice .str)] (fun x => decide (0 ≤ x.1) && decide (x.1 ≤ (List.length x.2.1 : Int)) && decide ((List.length x.2.1 : Int) - x.1 ≤ 4) && partsOk x.2.1 && decide (List.length x.2.1 ≤ 5)) (fun x => ⟨[], [(0, .arr tItem (x.2.1)), (1, .box [.slc 0, .dat tI (x.2.2.1), .dat tI (x.2.2.2.1), .dat tI (x.2.2.2.2.1), .dat tI (x.2.2.2.2.2.1)]), (2, .box [.dat .bool ((ordF (x.2.2.1, (x.2.2.2.1, (x.2.2.2.2.1, x.2.2.2.2.2.1))) (List.length x.2.1 - Int.toNat x.1) x.2.1 (Int.toNat x.1) (x.2.2.2.2.2.2.1, (x.2.2.2.2.2.2.2.1, (x.2.2.2.2.2.2.2.2.1, x.2.2.2.2.2.2.2.2.2.1)))).1)]), (3, .box [.dat tI ((ordF (x.2.2.1, (x.2.2.2.1, (x.2.2.2.2.1, x.2.2.2.2.2.1))) (List.length x.2.1 - Int.toNat x.1) x.2.1 (Int.toNat x.1) (x.2.2.2.2.2.2.1, (x.2.2.2.2.2.2.2.1, (x.2.2.2.2.2.2.2.2.1, x.2.2.2.2.2.2.2.2.2.1)))).2.1), .dat tI ((ordF (x.2.2.1, (x.2.2.2.1, (x.2.2.2.2.1, x.2.2.2.2.2.1))) (List.length x.2.1 - Int.toNat x.1) x.2.1 (Int.toNat x.1) (x.2.2.2.2.2.2.1, (x.2.2.2.2.2.2.2.1, (x.2.2.2.2.2.2.2.2.1, x.2.2.2.2.2.2.2.2.2.1)))).2.2.1), .dat (.slice .str) ((ordF (x.2.2.1, (x.2.2.2.1, (x.2.2.2.2.1, x.2.2.2.2.2.1))) (List.length x.2.1 - Int.toNat x.1) x.2.1 (Int.toNat x.1) (x.2.2.2.2.2.2.1, (x.2.2.2.2.2.2.2.1, (x.2.2.2.2.2.2.2.2.1, x.2.2.2.2.2.2.2.2.2.1)))).2.2.2)])]⟩)
noncomputable def En46d : Env := En46c.add 46 S46d
noncomputable def I46e : FnI := ⟨En46d, ⟨[(0, [0, 1, 2, 6], [])], [], []⟩, Tryz.f46, codeOf Tryz.f46, [], 4⟩
noncomputable def S46e : Spec := genS [false, true, false] true ⟨[.slc 0, .undef, .clos 47 [.ptr 1 0, .ptr 2 0, .ptr 3 0]], [(0, .arr tItem []), (1, .box [.slc 0, .undef, .undef, .undef, .undef]), (2, .box [.undef]), (3, .box [.undef, .undef, .undef])]⟩ [tI, (.slice tItem), tI, tI, tI, tI, .bool, tI, tI, (.slice .str)] (fun x => decide (0 ≤ x.1) && decide (x.1 ≤ (List.length x.2.1 : Int)) && decide ((List.length x.2.1 : Int) - x.1 ≤ 5) && partsOk x.2.1 && decide (List.length x.2.1 ≤ 5)) (fun x => ⟨[], [(0, .arr tItem (x.2.1)), (1, .box [.slc 0, .dat tI (x.2.2.1), .dat tI (x.2.2.2.1), .dat tI (x.2.2.2.2.1), .dat tI (x.2.2.2.2.2.1)]), (2, .box [.dat .bool ((ordF (x.2.2.1, (x.2.2.2.1, (x.2.2.2.2.1, x.2.2.2.2.2.1))) (List.length x.2.1 - Int.toNat x.1) x.2.1 (Int.toNat x.1) (x.2.2.2.2.2.2.1, (x.2.2.2.2.2.2.2.1, (x.2.2.2.2.2.2.2.2.1, x.2.2.2.2.2.2.2.2.2.1)))).1)]), (3, .box [.dat tI ((ordF (x.2.2.1, (x.2.2.2.1, (x.2.2.2.2.1, x.2.2.2.2.2.1))) (List.length x.2.1 - Int.toNat x.1) x.2.1 (Int.toNat x.1) (x.2.2.2.2.2.2.1, (x.2.2.2.2.2.2.2.1, (x.2.2.2.2.2.2.2.2.1, x.2.2.2.2.2.2.2.2.2.1)))).2.1), .dat tI ((ordF (x.2.2.1, (x.2.2.2.1, (x.2.2.2.2.1, x.2.2.2.2.2.1))) (List.length x.2.1 - Int.toNat x.1) x.2.1 (Int.toNat x.1) (x.2.2.2.2.2.2.1, (x.2.2.2.2.2.2.2.1, (x.2.2.2.2.2.2.2.2.1, x.2.2.2.2.2.2.2.2.2.1)))).2.2.1), .dat (.slice .str) ((ordF (x.2.2.1, (x.2.2.2.1, (x.2.2.2.2.1, x.2.2.2.2.2.1))) (List.length x.2.1 - Int.toNat x.1) x.2.1 (Int.toNat x.1) (x.2.2.2.2.2.2.1, (x.2.2.2.2.2.2.2.1, (x.2.2.2.2.2.2.2.2.1, x.2.2.2.2.2.2.2.2.2.1)))).2.2.2)])]⟩)
noncomputable def En46e : Env := En46d.add 46 S46e
noncomputable def I19 : FnI := ⟨En46e, ⟨[], [], []⟩, Tryz.f19, codeOf Tryz.f19, [.own tItem], 0⟩
noncomputable def S19 : Spec := genS [true] true ⟨[.undef], []⟩ [(.slice tItem)] (fun x => decide (List.length x.1 ≤ 1000)) (fun x => ⟨[.slc 0], [(0, .arr tItem (x.1))]⟩)
noncomputable def En19 : Env := En46e.add 19 S19
noncomputable def I23 : FnI := ⟨En19, ⟨[], [200021], []⟩, Tryz.f23, codeOf Tryz.f23, [.data (.slice .str), .data tI, .data tI], 0⟩
noncomputable def S23 : Spec := genS [true] true ⟨[.undef], []⟩ [tPrgm] (fun x => decide (List.length x.1.1 ≤ 5)) (fun x => ⟨[.dat (.slice .str) ((ordR x.1).1), .dat tI ((ordR x.1).2.1), .dat tI ((ordR x.1).2.2)], []⟩)
noncomputable def En23 : Env := En19.add 23 S23
noncomputable def I76 : FnI := ⟨En23, ⟨[], [], []⟩, Tryz.f76, codeOf Tryz.f76, [.data .bool], 1⟩
noncomputable def S76 : Spec := genS [true] true ⟨[.undef, .ptr 0 0], [(0, .box [.undef])]⟩ [tItem, .str] (fun x => true) (fun x => ⟨[.dat .bool (t76_0 x.1 x.2.1)], [(0, .box [.dat .str x.2.1])]⟩)
noncomputable def En76 : Env := En23.add 76 S76
noncomputable def I44a : FnI := ⟨En76, ⟨[(0, [0, 1, 7, 8], [])], [], []⟩, Tryz.f44, codeOf Tryz.f44, [.data tI], 1⟩
noncomputable def S44a : Spec := genS [false, false] true ⟨[.undef, .clos 76 [.ptr 0 0]], [(0, .box [.undef])]⟩ [(.slice tItem), .str] (fun x => decide (List.length x.1 ≤ 1000)) (fun x => ⟨[.dat tI (idxBy (fun o => t76_0 o x.2.1) x.1 0)], [(0, .box [.dat .str (x.2.1)])]⟩)
noncomputable def SS44a : Spec := orS S44 S44a
noncomputable def En44a : Env := En76.add 44 SS44a
noncomputable def I50 : FnI := ⟨En44a, ⟨[], [], []⟩, Tryz.f50, codeOf Tryz.f50, [.data tI], 0⟩
noncomputable def S50 : Spec := genS [true, true] false ⟨[.undef, .undef], []⟩ [tPrgm, .str] (fun x => t50_ok x.1 x.2.1) (fun x => ⟨[.dat tI (t50_0 x.1 x.2.1)], []⟩)
noncomputable def En50 : Env := En44a.add 50 S50
noncomputable def I22 : FnI := ⟨En50, ⟨[], [], []⟩, Tryz.f22, codeOf Tryz.f22, [.own .str], 0⟩
noncomputable def S22 : Spec := genS [true] false ⟨[.undef], []⟩ [(.slice .str)] (fun x => decide (List.length x.1 ≤ 1000)) (fun x => ⟨[.slc 0], [(0, .arr .str (x.1))]⟩)
noncomputable def En22 : Env := En50.add 22 S22
noncomputable def I51 : FnI := ⟨En22, ⟨[], [], []⟩, Tryz.f51, codeOf Tryz.f51, [.data tItem], 0⟩
noncomputable def S51 : Spec := genS [true] true ⟨[.undef], []⟩ [tItem] (fun x => t51_ok x.1) (fun x => ⟨[.dat tItem (t51_0 x.1)], []⟩)
noncomputable def En51 : Env := En22.add 51 S51
noncomputable def I24 : FnI := ⟨En51, ⟨[(0, [1, 2, 4, 7, 26, 27, 28], [])], [], [(2, [(0, tItem)]), (4, [(0, tItem)]), (7, [(0, tItem)]), (15, [(0, tItem)]), (23, [(0, tItem)]), (38, [(0, tItem)]), (44, [(0, tItem)])]⟩, Tryz.f24, codeOf Tryz.f24, [.data tPrgm, .data tI], 0⟩
noncomputable def S24 : Spec := genS [true, true] true ⟨[.undef, .undef], []⟩ [tPrgm, (.slice .str)] (fun x => decide (List.length x.2.1 ≤ 1000)) (fun x => ⟨[.dat tPrgm ((movP x.1 x.2.1).1), .dat tI ((movP x.1 x.2.1).2)], []⟩)
noncomputable def En24 : Env := En51.add 24 S24
noncomputable def I25 : FnI := ⟨En24, ⟨[(0, [0, 1, 5, 9, 10], [(5, tI)]), (2, [0, 5, 7], [])], [], []⟩, Tryz.f25, codeOf Tryz.f25, [.data (.slice tI)], 1⟩
noncomputable def aOrder (L : List Int) (at_ n : Int) : Int × List Int := Classical.epsilon fun p => (at_ ≤ p.1 ∧ p.1 ≤ at_ + 10 ∧ p.2.length = n.toNat ∧ (∀ x ∈ p.2, 0 ≤ x ∧ x < n) ∧ p.2.Nodup) ∧
  I25.run ⟨[.ptr 0 0, .dat tI n], [(0, .box [.dat (.slice tI) L, .dat tI at_])]⟩ = some ⟨[.dat (.slice tI) p.2], [(0, .box [.dat (.slice tI) L, .dat tI p.1])]⟩
noncomputable def S25 : Spec := genS [false, true] true ⟨[.ptr 0 0, .undef], [(0, .box [.undef, .undef])]⟩ [tI, (.slice tI), tI] (fun x => atOk 100 x.2.2.1 && decide (0 ≤ x.1) && decide (x.1 ≤ 5)) (fun x => ⟨[.dat (.slice tI) ((aOrder x.2.1 x.2.2.1 x.1).2)], [(0, .box [.dat (.slice tI) (x.2.1), .dat tI ((aOrder x.2.1 x.2.2.1 x.1).1)])]⟩)
noncomputable def En25 : Env := En24.add 25 S25
noncomputable def I6 : FnI := ⟨En25, ⟨[(0, [4, 6, 7, 8, 9, 10, 11, 12, 45, 46, 47], [(12, .str)])], [], []⟩, Tryz.f6, codeOf Tryz.f6, [.data .bool], 0⟩
noncomputable def S6 : Spec := genS [true] false ⟨[.undef], []⟩ [(.slice tI)] (fun x => true) (fun x => ⟨[.dat .bool true], []⟩)
end Go.Ev.X

set_option linter.unusedVariables false
set_option linter.unusedSimpArgs false
set_option maxRecDepth 100000
namespace Go.Ev.X
open Go Go.Ev Go.Proofs
theorem f54_run (a0 : Int) (a1 : Int) : I54.run ⟨[.dat tI a0, .dat tI a1], []⟩ = (cond (decide (a1 < (1 : Int))) (some ⟨[.dat tI (0 : Int)], []⟩) (cond (a1 == 0) none (cond (decide ((Int.tmod a0 a1) < (0 : Int))) (some ⟨[.dat tI (wrap .i64 ((Int.tmod a0 a1) + a1))], []⟩) (some ⟨[.dat tI (Int.tmod a0 a1)], []⟩)))) := (I54.run_eq _).trans (by kernel_rfl)
theorem f33_run (a0 : Int) (L : (List Int)) (at_ : Int) : I33.run ⟨[.ptr 0 0, .dat tI a0], [(0, .box [.dat (.slice tI) L, .dat tI at_])]⟩ = (cond (((List.length L : Nat) : Int) == (0 : Int)) (some ⟨[.dat tI (below (wrap .i64 ((wrap .i64 (at_ + (1 : Int))) * (7919 : Int))) a0)], [(0, .box [.dat (.slice tI) L, .dat tI (wrap .i64 (at_ + (1 : Int)))])]⟩) (cond (((List.length L : Nat) : Int) == 0) none (cond (((List.length L : Nat) : Int) == 0) none (cond (decide ((0 : Int) ≤ (Int.tmod (wrap .i64 ((wrap .i64 (at_ + (1 : Int))) - (1 : Int))) ((List.length L : Nat) : Int)))) (cond (decide ((Int.tmod (wrap .i64 ((wrap .i64 (at_ + (1 : Int))) - (1 : Int))) ((List.length L : Nat) : Int)) < ((List.length L : Nat) : Int))) (some ⟨[.dat tI (below (wrap .i64 ((below (List.getD L (Int.toNat (Int.tmod (wrap .i64 ((wrap .i64 (at_ + (1 : Int))) - (1 : Int))) ((List.length L : Nat) : Int))) (Tc.dflt tI)) (1073741824 : Int)) + (wrap .i64 ((wrap .i64 (Int.tdiv (wrap .i64 ((wrap .i64 (at_ + (1 : Int))) - (1 : Int))) ((List.length L : Nat) : Int))) * (wrap .i64 ((7919 : Int) + (Int.tmod (wrap .i64 ((wrap .i64 (at_ + (1 : Int))) - (1 : Int))) ((List.length L : Nat) : Int)))))))) a0)], [(0, .box [.dat (.slice tI) L, .dat tI (wrap .i64 (at_ + (1 : Int)))])]⟩) none) none)))) := (I33.run_eq _).trans (by kernel_rfl)
theorem f30_run (a0 : (List Int)) (L : (List Int)) (at_ : Int) : I30.run ⟨[.ptr 0 0, .dat (.slice tI) a0], [(0, .box [.dat (.slice tI) L, .dat tI at_])]⟩ = (cond (atOk 1 at_) (cond (decide ((0 : Int) ≤ (next L at_ ((List.length a0 : Nat) : Int)))) (cond (decide ((next L at_ ((List.length a0 : Nat) : Int)) < ((List.length a0 : Nat) : Int))) (some ⟨[.dat tI (List.getD a0 (Int.toNat (next L at_ ((List.length a0 : Nat) : Int))) (Tc.dflt tI))], [(0, .box [.dat (.slice tI) (L), .dat tI (nextAt at_)])]⟩) none) none) none) := (I30.run_eq _).trans (by kernel_rfl)
theorem f31_run (a0 : Int) (L : (List Int)) (at_ : Int) : I31.run ⟨[.ptr 0 0, .dat tI a0], [(0, .box [.dat (.slice tI) L, .dat tI at_])]⟩ = (cond (atOk 1 at_) (some ⟨[.dat .bool ((next L at_ a0) == (0 : Int))], [(0, .box [.dat (.slice tI) (L), .dat tI (nextAt at_)])]⟩) none) := (I31.run_eq _).trans (by kernel_rfl)
theorem f32_run (a0 : (List Bytes)) (L : (List Int)) (at_ : Int) : I32.run ⟨[.ptr 0 0, .dat (.slice .str) a0], [(0, .box [.dat (.slice tI) L, .dat tI at_])]⟩ = (cond (atOk 1 at_) (cond (decide ((0 : Int) ≤ (next L at_ ((List.length a0 : Nat) : Int)))) (cond (decide ((next L at_ ((List.length a0 : Nat) : Int)) < ((List.length a0 : Nat) : Int))) (some ⟨[.dat .str (List.getD a0 (Int.toNat (next L at_ ((List.length a0 : Nat) : Int))) (Tc.dflt .str))], [(0, .box [.dat (.slice tI) (L), .dat tI (nextAt at_)])]⟩) none) none) none) := (I32.run_eq _).trans (by kernel_rfl)
noncomputable def f8h0 (x0 : (List Bytes)) (x1 : Int) (x2 : Int) (x3 : (List Int)) (x4 : Int) (x5 : Int) (x6 : Int) (x7 : Int) (x8 : Int) (x9 : Int) (x10 : Int) (x11 : Int) (x12 : Int) (x13 : (List Item)) : Option Fr := I8.hd 0 (mkF 83 [(0, .ptr 0 0), (4, .ptr 501 0), (5, .ptr 502 0), (23, .dat (.slice .str) x0), (24, .dat tI x1), (25, .dat tI x2)] [(0, .box [.dat (.slice tI) x3, .dat tI x4]), (501, .box [.nil0, .dat tI x5, .dat tI x6, .dat tI x7, .dat tI x8]), (502, .box [.slc 503, .dat tI x9, .dat tI x10, .dat tI x11, .dat tI x12]), (503, .arr tItem x13)])
noncomputable def f8h2 (x0 : (List Bytes)) (x1 : Int) (x2 : Int) (x3 : Int) (x4 : Int) (x5 : (List Int)) (x6 : Int) (x7 : Int) (x8 : Int) (x9 : Int) (x10 : Int) (x11 : Int) (x12 : Int) (x13 : Int) (x14 : Int) (x15 : Bytes) (x16 : Bytes) (x17 : Int) (x18 : (List Bytes)) (x19 : (List Item)) (x20 : (List Bytes)) : Option Fr := I8.hd 2 (mkF 83 [(0, .ptr 0 0), (4, .ptr 501 0), (5, .ptr 502 0), (8, .ptr 503 0), (23, .dat (.slice .str) x0), (24, .dat tI x1), (25, .dat tI x2), (39, .slc 504), (40, .dat tI x3), (41, .dat tI x4)] [(0, .box [.dat (.slice tI) x5, .dat tI x6]), (501, .box [.nil0, .dat tI x7, .dat tI x8, .dat tI x9, .dat tI x10]), (502, .box [.slc 505, .dat tI x11, .dat tI x12, .dat tI x13, .dat tI x14]), (503, .box [.dat .str x15, .dat .str x16, .dat tI x17, .slc 506]), (504, .arr .str x18), (505, .arr tItem x19), (506, .arr .str x20)])
theorem f8_run (a0 : Int) (L : (List Int)) (at_ : Int) : I8.run ⟨[.ptr 0 0, .dat tI a0], [(0, .box [.dat (.slice tI) L, .dat tI at_])]⟩ = (cond (atOk 1 at_ && decide (0 < List.length [(0 : Int), (30 : Int), (50 : Int)]) && decide (List.length [(0 : Int), (30 : Int), (50 : Int)] ≤ 1000)) (cond (atOk 1 (nextAt at_) && decide (0 < List.length [(0 : Int), (10 : Int), (30 : Int)]) && decide (List.length [(0 : Int), (10 : Int), (30 : Int)] ≤ 1000)) (cond (atOk 1 (nextAt (nextAt at_)) && decide (0 < List.length [(0 : Int), (100 : Int)]) && decide (List.length [(0 : Int), (100 : Int)] ≤ 1000)) (cond (decide ((0 : Int) ≤ (0 : Int))) (cond (decide ((0 : Int) ≤ a0)) (cond (decide (a0 ≤ ((List.length ([[99], [97], [100], [98], [101]] : List Bytes) : Nat) : Int))) (f8h0 (List.drop (Int.toNat (0 : Int)) (List.take (Int.toNat a0) ([[99], [97], [100], [98], [101]] : List Bytes))) ((List.length (List.drop (Int.toNat (0 : Int)) (List.take (Int.toNat a0) ([[99], [97], [100], [98], [101]] : List Bytes))) : Nat) : Int) (0 : Int) (((L))) (nextAt (nextAt (nextAt at_))) (0 : Int) (0 : Int) (0 : Int) (0 : Int) (pick L at_ [(0 : Int), (30 : Int), (50 : Int)]) (pick (L) (nextAt at_) [(0 : Int), (10 : Int), (30 : Int)]) (pick ((L)) (nextAt (nextAt at_)) [(0 : Int), (100 : Int)]) (-1 : Int) ([] : List Item)) none) none) none) none) none) none) := (I8.run_eq _).trans (by kernel_rfl)
theorem f8h0_eq (x0 : (List Bytes)) (x1 : Int) (x2 : Int) (x3 : (List Int)) (x4 : Int) (x5 : Int) (x6 : Int) (x7 : Int) (x8 : Int) (x9 : Int) (x10 : Int) (x11 : Int) (x12 : Int) (x13 : (List Item)) : f8h0 x0 x1 x2 x3 x4 x5 x6 x7 x8 x9 x10 x11 x12 x13 = (cond (decide (x2 < x1)) (cond (decide ((0 : Int) ≤ x2)) (cond (decide (x2 < ((List.length x0 : Nat) : Int))) (cond (atOk 1 x4) (cond (next x3 x4 (6 : Int) == 0) (f8h0 x0 x1 (wrap .i64 (x2 + (1 : Int))) (x3) (nextAt x4) x5 x6 x7 x8 x9 x10 x11 x12 x13) (cond (atOk 1 (nextAt x4) && decide (0 < List.length ([[114, 111, 119, 115], [114, 111, 119, 115], [99, 105, 114, 99, 108, 101]] : List Bytes)) && decide (List.length ([[114, 111, 119, 115], [114, 111, 119, 115], [99, 105, 114, 99, 108, 101]] : List Bytes) ≤ 1000)) (cond (atOk 1 (nextAt (nextAt x4)) && decide (0 < List.length [(50 : Int), (100 : Int), (100 : Int), (200 : Int)]) && decide (List.length [(50 : Int), (100 : Int), (100 : Int), (200 : Int)] ≤ 1000)) (f8h2 x0 x1 x2 ((List.length ([[97, 108, 116, 111], [98, 97, 115, 115], [115, 111, 108, 105]] : List Bytes) : Nat) : Int) (0 : Int) (((x3))) (nextAt (nextAt (nextAt x4))) x5 x6 x7 x8 x9 x10 x11 x12 (List.getD x0 (Int.toNat x2) (Tc.dflt .str)) (some_ (x3) (nextAt x4) ([[114, 111, 119, 115], [114, 111, 119, 115], [99, 105, 114, 99, 108, 101]] : List Bytes)) (pick ((x3)) (nextAt (nextAt x4)) [(50 : Int), (100 : Int), (100 : Int), (200 : Int)]) ([[97, 108, 116, 111], [98, 97, 115, 115], [115, 111, 108, 105]] : List Bytes) x13 ([] : List Bytes)) none) none)) none) none) none) (cond (decide (((List.length x13 : Nat) : Int) > (1 : Int))) (cond (atOk 1 x4) (cond (next x3 x4 (2 : Int) == 0) (cond (atOk 1 (nextAt x4)) (some ⟨[.agg [.slc 2, .dat tI x9, .dat tI x10, .dat tI x11, .dat tI (next (x3) (nextAt x4) (wrap .i64 (((List.length x13 : Nat) : Int) - (1 : Int))))]], [(0, .box [.dat (.slice tI) ((x3)), .dat tI (nextAt (nextAt x4))]), (2, .arr tItem x13)]⟩) none) (some ⟨[.agg [.slc 2, .dat tI x9, .dat tI x10, .dat tI x11, .dat tI x12]], [(0, .box [.dat (.slice tI) (x3), .dat tI (nextAt x4)]), (2, .arr tItem x13)]⟩)) none) (some ⟨[.agg [.slc 2, .dat tI x9, .dat tI x10, .dat tI x11, .dat tI x12]], [(0, .box [.dat (.slice tI) x3, .dat tI x4]), (2, .arr tItem x13)]⟩))) := hdEq (by kernel_rfl)
theorem f8h2_eq (x0 : (List Bytes)) (x1 : Int) (x2 : Int) (x3 : Int) (x4 : Int) (x5 : (List Int)) (x6 : Int) (x7 : Int) (x8 : Int) (x9 : Int) (x10 : Int) (x11 : Int) (x12 : Int) (x13 : Int) (x14 : Int) (x15 : Bytes) (x16 : Bytes) (x17 : Int) (x18 : (List Bytes)) (x19 : (List Item)) (x20 : (List Bytes)) : f8h2 x0 x1 x2 x3 x4 x5 x6 x7 x8 x9 x10 x11 x12 x13 x14 x15 x16 x17 x18 x19 x20 = (cond (decide (x4 < x3)) (cond (decide ((0 : Int) ≤ x4)) (cond (decide (x4 < ((List.length x18 : Nat) : Int))) (cond (decide ((Int.toNat x4) < List.length x18)) (cond (atOk 1 x6) (cond (next x5 x6 (2 : Int) == 0) (cond (decide ((List.length x20 + List.length ([(List.getD x18 (Int.toNat x4) (Tc.dflt .str))] : List Bytes)) * 16 ≤ 140737488355328)) (f8h2 x0 x1 x2 x3 (wrap .i64 (x4 + (1 : Int))) (x5) (nextAt x6) x7 x8 x9 x10 x11 x12 x13 x14 x15 x16 x17 x18 x19 (x20 ++ ([(List.getD x18 (Int.toNat x4) (Tc.dflt .str))] : List Bytes))) none) (f8h2 x0 x1 x2 x3 (wrap .i64 (x4 + (1 : Int))) (x5) (nextAt x6) x7 x8 x9 x10 x11 x12 x13 x14 x15 x16 x17 x18 x19 x20)) none) none) none) none) (cond (((List.length x20 : Nat) : Int) == (0 : Int)) (cond (decide ((List.length x19 + List.length ([(x15, (x16, (x17, ([[97, 108, 116, 111]] : List Bytes))))] : List Item)) * 64 ≤ 140737488355328)) (f8h0 x0 x1 (wrap .i64 (x2 + (1 : Int))) x5 x6 x7 x8 x9 x10 x11 x12 x13 x14 (x19 ++ ([(x15, (x16, (x17, ([[97, 108, 116, 111]] : List Bytes))))] : List Item))) none) (cond (decide ((List.length x19 + List.length ([(x15, (x16, (x17, x20)))] : List Item)) * 64 ≤ 140737488355328)) (f8h0 x0 x1 (wrap .i64 (x2 + (1 : Int))) x5 x6 x7 x8 x9 x10 x11 x12 x13 x14 (x19 ++ ([(x15, (x16, (x17, x20)))] : List Item))) none))) := hdEq (by kernel_rfl)
theorem f42_run (a0 : Int) (a1 : Int) (a2 : Int) : I42.run ⟨[.dat tI a0, .dat tI a1, .dat tI a2], []⟩ = (cond (decide (a0 < a1)) (some ⟨[.dat .bool true], []⟩) (some ⟨[.dat .bool (decide (a0 > a2))], []⟩)) := (I42.run_eq _).trans (by kernel_rfl)
theorem f80_run (a0 : Item) (k : Bytes) (pl : Bytes) (lg : Int) (ps : (List Bytes)) : I80.run ⟨[.dat tItem a0, .ptr 0 0], [(0, .box [.dat .str k, .dat .str pl, .dat tI lg, .dat (.slice .str) ps])]⟩ = (some ⟨[.dat .bool (a0.1 == k)], [(0, .box [.dat .str k, .dat .str pl, .dat tI lg, .dat (.slice .str) ps])]⟩) := (I80.run_eq _).trans (by kernel_rfl)
noncomputable def f44h0 (x0 : (List Item)) (x1 : Int) (x2 : Int) (x3 : Bytes) (x4 : Bytes) (x5 : Int) (x6 : (List Bytes)) : Option Fr := I44.hd 0 (mkF 19 [(0, .dat (.slice tItem) x0), (1, .clos 80 [.ptr 0 0]), (7, .dat tI x1), (8, .dat tI x2)] [(0, .box [.dat .str x3, .dat .str x4, .dat tI x5, .dat (.slice .str) x6])])
theorem f44_run (a0 : (List Item)) (k : Bytes) (pl : Bytes) (lg : Int) (ps : (List Bytes)) : I44.run ⟨[.dat (.slice tItem) a0, .clos 80 [.ptr 0 0]], [(0, .box [.dat .str k, .dat .str pl, .dat tI lg, .dat (.slice .str) ps])]⟩ = (f44h0 a0 ((List.length a0 : Nat) : Int) (0 : Int) k pl lg ps) := (I44.run_eq _).trans (by kernel_rfl)
theorem f44h0_eq (x0 : (List Item)) (x1 : Int) (x2 : Int) (x3 : Bytes) (x4 : Bytes) (x5 : Int) (x6 : (List Bytes)) : f44h0 x0 x1 x2 x3 x4 x5 x6 = (cond (decide (x2 < x1)) (cond (decide ((0 : Int) ≤ x2)) (cond (decide (x2 < ((List.length x0 : Nat) : Int))) (cond (t80_0 (List.getD x0 (Int.toNat x2) (Tc.dflt tItem)) x3 x4 x5 x6) (some ⟨[.dat tI x2], [(0, .box [.dat .str x3, .dat .str x4, .dat tI x5, .dat (.slice .str) x6])]⟩) (f44h0 x0 x1 (wrap .i64 (x2 + (1 : Int))) x3 x4 x5 x6)) none) none) (some ⟨[.dat tI (-1 : Int)], [(0, .box [.dat .str x3, .dat .str x4, .dat tI x5, .dat (.slice .str) x6])]⟩)) := hdEq (by kernel_rfl)
theorem f79_run (a0 : (List Item)) (k : Bytes) (pl : Bytes) (lg : Int) (ps : (List Bytes)) : I79.run ⟨[.dat (.slice tItem) a0, .clos 80 [.ptr 0 0]], [(0, .box [.dat .str k, .dat .str pl, .dat tI lg, .dat (.slice .str) ps])]⟩ = (cond (decide (List.length a0 ≤ 1000)) (some ⟨[.dat .bool (decide ((idxBy (fun o => t80_0 o k pl lg ps) a0 0) ≥ (0 : Int)))], [(0, .box [.dat .str (k), .dat .str (pl), .dat tI (lg), .dat (.slice .str) (ps)])]⟩) none) := (I79.run_eq _).trans (by kernel_rfl)
theorem f78_run (a0 : Bytes) : I78.run ⟨[.dat .str a0], []⟩ = (cond (!(a0 == [])) (cond (decide (((List.length a0 : Nat) : Int) ≤ (40 : Int))) (cond (decide ((0 : Int) ≤ (0 : Int))) (cond (decide ((0 : Int) < ((List.length a0 : Nat) : Int))) (cond (decide ((indexB [97, 98, 99, 100, 101, 102, 103, 104, 105, 106, 107, 108, 109, 110, 111, 112, 113, 114, 115, 116, 117, 118, 119, 120, 121, 122] ((UInt8.toNat (List.getD a0 (Int.toNat (0 : Int)) 0) : Nat) : Int)) ≥ (0 : Int))) (cond (trimOk a0 [97, 98, 99, 100, 101, 102, 103, 104, 105, 106, 107, 108, 109, 110, 111, 112, 113, 114, 115, 116, 117, 118, 119, 120, 121, 122, 48, 49, 50, 51, 52, 53, 54, 55, 56, 57, 45, 95]) (some ⟨[.dat .bool ((trimB a0 [97, 98, 99, 100, 101, 102, 103, 104, 105, 106, 107, 108, 109, 110, 111, 112, 113, 114, 115, 116, 117, 118, 119, 120, 121, 122, 48, 49, 50, 51, 52, 53, 54, 55, 56, 57, 45, 95]) == [])], []⟩) none) (some ⟨[.dat .bool false], []⟩)) none) none) (some ⟨[.dat .bool false], []⟩)) (some ⟨[.dat .bool false], []⟩)) := (I78.run_eq _).trans (by kernel_rfl)
noncomputable def f81h0 (x0 : (List Bytes)) (x1 : (List Bytes)) (x2 : Int) (x3 : Int) : Option Fr := I81.hd 0 (mkF 33 [(0, .dat (.slice .str) x0), (11, .dat (.slice .str) x1), (12, .dat tI x2), (13, .dat tI x3)] [])
theorem f81_run (a0 : (List Bytes)) : I81.run ⟨[.dat (.slice .str) a0], []⟩ = (cond (((List.length a0 : Nat) : Int) == (0 : Int)) (some ⟨[.dat tI (8 : Int)], []⟩) (cond (decide (((List.length a0 : Nat) : Int) > (12 : Int))) (some ⟨[.dat tI (2 : Int)], []⟩) (f81h0 a0 a0 ((List.length a0 : Nat) : Int) (0 : Int)))) := (I81.run_eq _).trans (by kernel_rfl)
theorem f81h0_eq (x0 : (List Bytes)) (x1 : (List Bytes)) (x2 : Int) (x3 : Int) : f81h0 x0 x1 x2 x3 = (cond (decide (x3 < x2)) (cond (decide ((0 : Int) ≤ x3)) (cond (decide (x3 < ((List.length x1 : Nat) : Int))) (cond (!(isKey (List.getD x1 (Int.toNat x3) (Tc.dflt .str)))) (some ⟨[.dat tI (5 : Int)], []⟩) (cond (decide (x3 > (0 : Int))) (cond (decide ((0 : Int) ≤ (wrap .i64 (x3 - (1 : Int))))) (cond (decide ((wrap .i64 (x3 - (1 : Int))) < ((List.length x0 : Nat) : Int))) (cond (bLess (List.getD x1 (Int.toNat x3) (Tc.dflt .str)) (List.getD x0 (Int.toNat (wrap .i64 (x3 - (1 : Int)))) (Tc.dflt .str)) || (List.getD x1 (Int.toNat x3) (Tc.dflt .str)) == (List.getD x0 (Int.toNat (wrap .i64 (x3 - (1 : Int)))) (Tc.dflt .str))) (some ⟨[.dat tI (7 : Int)], []⟩) (f81h0 x0 x1 x2 (wrap .i64 (x3 + (1 : Int))))) none) none) (f81h0 x0 x1 x2 (wrap .i64 (x3 + (1 : Int)))))) none) none) (some ⟨[.dat tI (0 : Int)], []⟩)) := hdEq (by kernel_rfl)
noncomputable def f55h0 (x0 : (List Item)) (x1 : (List Item)) (x2 : Int) (x3 : Int) : Option Fr := I55.hd 0 (mkF 44 [(0, .dat (.slice tItem) x0), (9, .dat (.slice tItem) x1), (10, .dat tI x2), (11, .dat tI x3)] [])
theorem f55_run (a0 : (List Item)) : I55.run ⟨[.dat (.slice tItem) a0], []⟩ = (cond (decide (((List.length a0 : Nat) : Int) > (60 : Int))) (some ⟨[.dat tI (2 : Int)], []⟩) (f55h0 a0 a0 ((List.length a0 : Nat) : Int) (0 : Int))) := (I55.run_eq _).trans (by kernel_rfl)
theorem f55h0_eq (x0 : (List Item)) (x1 : (List Item)) (x2 : Int) (x3 : Int) : f55h0 x0 x1 x2 x3 = (cond (decide (x3 < x2)) (cond (decide ((0 : Int) ≤ x3)) (cond (decide (x3 < ((List.length x1 : Nat) : Int))) (cond (!(isKey (List.getD x1 (Int.toNat x3) (Tc.dflt tItem)).1)) (some ⟨[.dat tI (5 : Int)], []⟩) (cond (!(isKey (List.getD x1 (Int.toNat x3) (Tc.dflt tItem)).2.1)) (some ⟨[.dat tI (5 : Int)], []⟩) (cond (decide ((0 : Int) ≤ (0 : Int))) (cond (decide ((0 : Int) ≤ x3)) (cond (decide (x3 ≤ ((List.length x0 : Nat) : Int))) (cond (t79_ok (List.drop (Int.toNat (0 : Int)) (List.take (Int.toNat x3) x0)) (List.getD x1 (Int.toNat x3) (Tc.dflt tItem)).1 (List.getD x1 (Int.toNat x3) (Tc.dflt tItem)).2.1 (List.getD x1 (Int.toNat x3) (Tc.dflt tItem)).2.2.1 (List.getD x1 (Int.toNat x3) (Tc.dflt tItem)).2.2.2) (cond (t79_0 (List.drop (Int.toNat (0 : Int)) (List.take (Int.toNat x3) x0)) (List.getD x1 (Int.toNat x3) (Tc.dflt tItem)).1 (List.getD x1 (Int.toNat x3) (Tc.dflt tItem)).2.1 (List.getD x1 (Int.toNat x3) (Tc.dflt tItem)).2.2.1 (List.getD x1 (Int.toNat x3) (Tc.dflt tItem)).2.2.2) (some ⟨[.dat tI (6 : Int)], []⟩) (cond (outside (List.getD x1 (Int.toNat x3) (Tc.dflt tItem)).2.2.1 (1 : Int) (86400000 : Int)) (some ⟨[.dat tI (1 : Int)], []⟩) (cond ((partsF isKey (List.getD x1 (Int.toNat x3) (Tc.dflt tItem)).2.2.2) != (0 : Int)) (some ⟨[.dat tI (partsF isKey (List.getD x1 (Int.toNat x3) (Tc.dflt tItem)).2.2.2)], []⟩) (f55h0 x0 x1 x2 (wrap .i64 (x3 + (1 : Int))))))) none) none) none) none))) none) none) (some ⟨[.dat tI (0 : Int)], []⟩)) := hdEq (by kernel_rfl)
theorem f34_run (a0 : Prgm) : I34.run ⟨[.dat tPrgm a0], []⟩ = (cond ((checkItems isKey a0.1) != (0 : Int)) (some ⟨[.dat tI (checkItems isKey a0.1)], []⟩) (cond (outside a0.2.1 (0 : Int) (86400000 : Int)) (some ⟨[.dat tI (1 : Int)], []⟩) (cond (outside a0.2.2.1 (0 : Int) (86400000 : Int)) (some ⟨[.dat tI (1 : Int)], []⟩) (cond (outside a0.2.2.2.1 (0 : Int) (86400000 : Int)) (some ⟨[.dat tI (1 : Int)], []⟩) (cond (outside a0.2.2.2.2 (-1 : Int) (if (-1 : Int) < (wrap .i64 (((List.length a0.1 : Nat) : Int) - (2 : Int))) then (wrap .i64 (((List.length a0.1 : Nat) : Int) - (2 : Int))) else (-1 : Int))) (some ⟨[.dat tI (1 : Int)], []⟩) (some ⟨[.dat tI (0 : Int)], []⟩)))))) := (I34.run_eq _).trans (by kernel_rfl)
theorem f98_run (a0 : Prgm) (a1 : Item) (a2 : Item) : I98.run ⟨[.dat tPrgm a0, .dat tItem a1, .dat tItem a2], []⟩ = (cond (!(a1.2.1 == a2.2.1)) (some ⟨[.dat tI a0.2.1], []⟩) (some ⟨[.dat tI a0.2.2.1], []⟩)) := (I98.run_eq _).trans (by kernel_rfl)
theorem f72_run (a0 : Prgm) (a1 : Int) : I72.run ⟨[.dat tPrgm a0, .dat tI a1], []⟩ = (cond (a1 == a0.2.2.2.2) (some ⟨[.dat tI a0.2.2.2.1], []⟩) (cond (decide ((0 : Int) ≤ a1)) (cond (decide (a1 < ((List.length a0.1 : Nat) : Int))) (cond (decide ((0 : Int) ≤ (wrap .i64 (a1 + (1 : Int))))) (cond (decide ((wrap .i64 (a1 + (1 : Int))) < ((List.length a0.1 : Nat) : Int))) (some ⟨[.dat tI (t98_0 (a0.1, (a0.2.1, (a0.2.2.1, (a0.2.2.2.1, a0.2.2.2.2)))) (List.getD a0.1 (Int.toNat a1) (Tc.dflt tItem)) (List.getD a0.1 (Int.toNat (wrap .i64 (a1 + (1 : Int)))) (Tc.dflt tItem)))], []⟩) none) none) none) none)) := (I72.run_eq _).trans (by kernel_rfl)
noncomputable def f40h0 (x0 : Int) (x1 : (List Item)) (x2 : Int) (x3 : Int) (x4 : (List Item)) (x5 : Int) (x6 : Int) (x7 : Int) (x8 : Int) (x9 : (List Int)) : Option Fr := I40.hd 0 (mkF 38 [(1, .ptr 500 0), (4, .slc 501), (5, .dat tI x0), (9, .dat (.slice tItem) x1), (10, .dat tI x2), (11, .dat tI x3)] [(500, .box [.dat (.slice tItem) x4, .dat tI x5, .dat tI x6, .dat tI x7, .dat tI x8]), (501, .arr tI x9)])
theorem f40_run (a0 : Prgm) : I40.run ⟨[.dat tPrgm a0], []⟩ = (f40h0 (0 : Int) a0.1 ((List.length a0.1 : Nat) : Int) (0 : Int) a0.1 a0.2.1 a0.2.2.1 a0.2.2.2.1 a0.2.2.2.2 ([] : List Int)) := (I40.run_eq _).trans (by kernel_rfl)
theorem f40h0_eq (x0 : Int) (x1 : (List Item)) (x2 : Int) (x3 : Int) (x4 : (List Item)) (x5 : Int) (x6 : Int) (x7 : Int) (x8 : Int) (x9 : (List Int)) : f40h0 x0 x1 x2 x3 x4 x5 x6 x7 x8 x9 = (cond (decide (x3 < x2)) (cond (decide ((0 : Int) ≤ x3)) (cond (decide (x3 < ((List.length x1 : Nat) : Int))) (cond (decide ((List.length x9 + List.length [x0]) * 8 ≤ 140737488355328)) (cond (decide ((wrap .i64 (x3 + (1 : Int))) < ((List.length x4 : Nat) : Int))) (cond (decide (0 ≤ x3) && decide (x3 + 1 < (List.length (x4, (x5, (x6, (x7, x8)))).1 : Int)) && decide (List.length (x4, (x5, (x6, (x7, x8)))).1 ≤ 1000)) (f40h0 (wrap .i64 ((wrap .i64 (x0 + (List.getD x1 (Int.toNat x3) (Tc.dflt tItem)).2.2.1)) + (behindF (x4, (x5, (x6, (x7, x8)))) x3))) x1 x2 (wrap .i64 (x3 + (1 : Int))) x4 x5 x6 x7 x8 (x9 ++ [x0])) none) (f40h0 (wrap .i64 (x0 + (List.getD x1 (Int.toNat x3) (Tc.dflt tItem)).2.2.1)) x1 x2 (wrap .i64 (x3 + (1 : Int))) x4 x5 x6 x7 x8 (x9 ++ [x0]))) none) none) none) (some ⟨[.slc 0, .dat tI x0], [(0, .arr tI x9)]⟩)) := hdEq (by kernel_rfl)
theorem f11_run (a0 : Prgm) : I11.run ⟨[.dat tPrgm a0], []⟩ = (cond ((checkProg isKey (a0.1, (a0.2.1, (a0.2.2.1, (a0.2.2.2.1, a0.2.2.2.2))))) != (0 : Int)) (some ⟨[.dat tI (0 : Int), .dat tI (checkProg isKey (a0.1, (a0.2.1, (a0.2.2.1, (a0.2.2.2.1, a0.2.2.2.2)))))], []⟩) (cond (decide (List.length (a0.1, (a0.2.1, (a0.2.2.1, (a0.2.2.2.1, a0.2.2.2.2)))).1 ≤ 1000)) (some ⟨[.dat tI ((begGo (a0.1, (a0.2.1, (a0.2.2.1, (a0.2.2.2.1, a0.2.2.2.2)))) 0 0 (a0.1, (a0.2.1, (a0.2.2.1, (a0.2.2.2.1, a0.2.2.2.2)))).1).2), .dat tI (0 : Int)], []⟩) none)) := (I11.run_eq _).trans (by kernel_rfl)
noncomputable def f12h0 (x0 : (List Int)) (x1 : Int) (x2 : Int) : Option Fr := I12.hd 0 (mkF 15 [(5, .dat (.slice tI) x0), (6, .dat tI x1), (7, .dat tI x2)] [])
theorem f12_run (a0 : (List Int)) : I12.run ⟨[.dat (.slice tI) a0], []⟩ = (f12h0 a0 ((List.length a0 : Nat) : Int) (0 : Int)) := (I12.run_eq _).trans (by kernel_rfl)
theorem f12h0_eq (x0 : (List Int)) (x1 : Int) (x2 : Int) : f12h0 x0 x1 x2 = (cond (decide (x2 < x1)) (cond (decide ((0 : Int) ≤ x2)) (cond (decide (x2 < ((List.length x0 : Nat) : Int))) (cond ((List.getD x0 (Int.toNat x2) (Tc.dflt tI)) != (0 : Int)) (some ⟨[.dat tI (List.getD x0 (Int.toNat x2) (Tc.dflt tI))], []⟩) (f12h0 x0 x1 (wrap .i64 (x2 + (1 : Int))))) none) none) (some ⟨[.dat tI (0 : Int)], []⟩)) := hdEq (by kernel_rfl)
noncomputable def f45h0 (x0 : (List Bytes)) (x1 : Bytes) (x2 : Int) (x3 : Int) : Option Fr := I45.hd 0 (mkF 19 [(0, .dat (.slice .str) x0), (1, .dat .str x1), (7, .dat tI x2), (8, .dat tI x3)] [])
theorem f45_run (a0 : (List Bytes)) (a1 : Bytes) : I45.run ⟨[.dat (.slice .str) a0, .dat .str a1], []⟩ = (f45h0 a0 a1 ((List.length a0 : Nat) : Int) (0 : Int)) := (I45.run_eq _).trans (by kernel_rfl)
theorem f45h0_eq (x0 : (List Bytes)) (x1 : Bytes) (x2 : Int) (x3 : Int) : f45h0 x0 x1 x2 x3 = (cond (decide (x3 < x2)) (cond (decide ((0 : Int) ≤ x3)) (cond (decide (x3 < ((List.length x0 : Nat) : Int))) (cond (x1 == (List.getD x0 (Int.toNat x3) (Tc.dflt .str))) (some ⟨[.dat tI x3], []⟩) (f45h0 x0 x1 x2 (wrap .i64 (x3 + (1 : Int))))) none) none) (some ⟨[.dat tI (-1 : Int)], []⟩)) := hdEq (by kernel_rfl)
theorem f21_run (a0 : (List Bytes)) (a1 : Bytes) : I21.run ⟨[.dat (.slice .str) a0, .dat .str a1], []⟩ = (cond (decide (List.length a0 ≤ 1000)) (some ⟨[.dat .bool (decide ((idxS a1 a0 0) ≥ (0 : Int)))], []⟩) none) := (I21.run_eq _).trans (by kernel_rfl)
theorem f101_run (a0 : Bytes) (bk : Bytes) (bp : Bytes) (bl : Int) (bps : (List Bytes)) : I101.run ⟨[.dat .str a0, .ptr 0 0], [(0, .box [.dat .str bk, .dat .str bp, .dat tI bl, .dat (.slice .str) bps])]⟩ = (cond (decide (List.length bps ≤ 1000)) (some ⟨[.dat .bool (hasS bps a0)], [(0, .box [.dat .str bk, .dat .str bp, .dat tI bl, .dat (.slice .str) bps])]⟩) none) := (I101.run_eq _).trans (by kernel_rfl)
noncomputable def f118h0 (x0 : (List Bytes)) (x1 : Int) (x2 : Int) (x3 : Bytes) (x4 : Bytes) (x5 : Int) (x6 : (List Bytes)) : Option Fr := I118.hd 0 (mkF 19 [(0, .dat (.slice .str) x0), (1, .clos 101 [.ptr 0 0]), (7, .dat tI x1), (8, .dat tI x2)] [(0, .box [.dat .str x3, .dat .str x4, .dat tI x5, .dat (.slice .str) x6])])
theorem f118_run (a0 : (List Bytes)) (bk : Bytes) (bp : Bytes) (bl : Int) (bps : (List Bytes)) : I118.run ⟨[.dat (.slice .str) a0, .clos 101 [.ptr 0 0]], [(0, .box [.dat .str bk, .dat .str bp, .dat tI bl, .dat (.slice .str) bps])]⟩ = (f118h0 a0 ((List.length a0 : Nat) : Int) (0 : Int) bk bp bl bps) := (I118.run_eq _).trans (by kernel_rfl)
theorem f118h0_eq (x0 : (List Bytes)) (x1 : Int) (x2 : Int) (x3 : Bytes) (x4 : Bytes) (x5 : Int) (x6 : (List Bytes)) : f118h0 x0 x1 x2 x3 x4 x5 x6 = (cond (decide (x2 < x1)) (cond (decide ((0 : Int) ≤ x2)) (cond (decide (x2 < ((List.length x0 : Nat) : Int))) (cond (t101_ok (List.getD x0 (Int.toNat x2) (Tc.dflt .str)) x3 x4 x5 x6) (cond (t101_0 (List.getD x0 (Int.toNat x2) (Tc.dflt .str)) x3 x4 x5 x6) (some ⟨[.dat tI x2], [(0, .box [.dat .str x3, .dat .str x4, .dat tI x5, .dat (.slice .str) x6])]⟩) (f118h0 x0 x1 (wrap .i64 (x2 + (1 : Int))) x3 x4 x5 x6)) none) none) none) (some ⟨[.dat tI (-1 : Int)], [(0, .box [.dat .str x3, .dat .str x4, .dat tI x5, .dat (.slice .str) x6])]⟩)) := hdEq (by kernel_rfl)
theorem f100_run (a0 : (List Bytes)) (bk : Bytes) (bp : Bytes) (bl : Int) (bps : (List Bytes)) : I100.run ⟨[.dat (.slice .str) a0, .clos 101 [.ptr 0 0]], [(0, .box [.dat .str bk, .dat .str bp, .dat tI bl, .dat (.slice .str) bps])]⟩ = (cond (decide (List.length a0 ≤ 1000) && decide (List.length bps ≤ 1000)) (some ⟨[.dat .bool (decide ((idxBy (fun o => t101_0 o bk bp bl bps) a0 0) ≥ (0 : Int)))], [(0, .box [.dat .str (bk), .dat .str (bp), .dat tI (bl), .dat (.slice .str) (bps)])]⟩) none) := (I100.run_eq _).trans (by kernel_rfl)
theorem f74_run (a0 : Item) (a1 : Item) : I74.run ⟨[.dat tItem a0, .dat tItem a1], []⟩ = (cond (t100_ok a0.2.2.2 a1.1 a1.2.1 a1.2.2.1 a1.2.2.2) (some ⟨[.dat .bool (t100_0 a0.2.2.2 a1.1 a1.2.1 a1.2.2.1 a1.2.2.2)], []⟩) none) := (I74.run_eq _).trans (by kernel_rfl)
noncomputable def f48h0 (x0 : (List Item)) (x1 : Int) (x2 : Int) (x3 : (List Item)) (x4 : Int) (x5 : Int) (x6 : Int) (x7 : Int) (x8 : Int) (x9 : Int) (x10 : Int) (x11 : Int) (x12 : (List Bytes)) (x13 : (List Bytes)) : Option Fr := I48.hd 0 (mkF 52 [(1, .ptr 500 0), (2, .ptr 501 0), (3, .ptr 502 0), (13, .dat (.slice tItem) x0), (14, .dat tI x1), (15, .dat tI x2)] [(500, .box [.dat (.slice tItem) x3, .dat tI x4, .dat tI x5, .dat tI x6, .dat tI x7]), (501, .box [.dat tI x8, .dat tI x9, .slc 503]), (502, .box [.dat tI x10, .dat tI x11, .slc 504]), (503, .arr .str x12), (504, .arr .str x13)])
theorem f48_run (a0 : Prgm) : I48.run ⟨[.dat tPrgm a0], []⟩ = (cond (decide (List.length (a0.1, (a0.2.1, (a0.2.2.1, (a0.2.2.2.1, a0.2.2.2.2)))).1 ≤ 1000)) (f48h0 a0.1 ((List.length a0.1 : Nat) : Int) (0 : Int) a0.1 a0.2.1 a0.2.2.1 a0.2.2.2.1 a0.2.2.2.2 (0 : Int) (0 : Int) ((begGo (a0.1, (a0.2.1, (a0.2.2.1, (a0.2.2.2.1, a0.2.2.2.2)))) 0 0 (a0.1, (a0.2.1, (a0.2.2.1, (a0.2.2.2.1, a0.2.2.2.2)))).1).2) (0 : Int) ([] : List Bytes) ([] : List Bytes)) none) := (I48.run_eq _).trans (by kernel_rfl)
theorem f48h0_eq (x0 : (List Item)) (x1 : Int) (x2 : Int) (x3 : (List Item)) (x4 : Int) (x5 : Int) (x6 : Int) (x7 : Int) (x8 : Int) (x9 : Int) (x10 : Int) (x11 : Int) (x12 : (List Bytes)) (x13 : (List Bytes)) : f48h0 x0 x1 x2 x3 x4 x5 x6 x7 x8 x9 x10 x11 x12 x13 = (cond (decide (x2 < x1)) (cond (decide ((0 : Int) ≤ x2)) (cond (decide (x2 < ((List.length x0 : Nat) : Int))) (cond (decide ((List.length x13 + List.length ([(List.getD x0 (Int.toNat x2) (Tc.dflt tItem)).1] : List Bytes)) * 16 ≤ 140737488355328)) (cond (decide (x2 > (0 : Int))) (cond ((wrap .i64 (x2 - (1 : Int))) != x7) (cond (decide ((0 : Int) ≤ (wrap .i64 (x2 - (1 : Int))))) (cond (decide ((wrap .i64 (x2 - (1 : Int))) < ((List.length x3 : Nat) : Int))) (cond (decide (List.length (List.getD x3 (Int.toNat (wrap .i64 (x2 - (1 : Int)))) (Tc.dflt tItem)).2.2.2 ≤ 1000) && decide (List.length ((List.getD x0 (Int.toNat x2) (Tc.dflt tItem)).1, ((List.getD x0 (Int.toNat x2) (Tc.dflt tItem)).2.1, ((List.getD x0 (Int.toNat x2) (Tc.dflt tItem)).2.2.1, (List.getD x0 (Int.toNat x2) (Tc.dflt tItem)).2.2.2))).2.2.2 ≤ 1000)) (cond (comF (List.getD x3 (Int.toNat (wrap .i64 (x2 - (1 : Int)))) (Tc.dflt tItem)) ((List.getD x0 (Int.toNat x2) (Tc.dflt tItem)).1, ((List.getD x0 (Int.toNat x2) (Tc.dflt tItem)).2.1, ((List.getD x0 (Int.toNat x2) (Tc.dflt tItem)).2.2.1, (List.getD x0 (Int.toNat x2) (Tc.dflt tItem)).2.2.2)))) (f48h0 x0 x1 (wrap .i64 (x2 + (1 : Int))) x3 x4 x5 x6 x7 x8 x9 x10 (wrap .i64 (x11 + (1 : Int))) x12 (x13 ++ ([(List.getD x0 (Int.toNat x2) (Tc.dflt tItem)).1] : List Bytes))) (f48h0 x0 x1 (wrap .i64 (x2 + (1 : Int))) x3 x4 x5 x6 x7 x8 x9 x10 x11 x12 (x13 ++ ([(List.getD x0 (Int.toNat x2) (Tc.dflt tItem)).1] : List Bytes)))) none) none) none) (f48h0 x0 x1 (wrap .i64 (x2 + (1 : Int))) x3 x4 x5 x6 x7 x8 x9 x10 x11 x12 (x13 ++ ([(List.getD x0 (Int.toNat x2) (Tc.dflt tItem)).1] : List Bytes)))) (f48h0 x0 x1 (wrap .i64 (x2 + (1 : Int))) x3 x4 x5 x6 x7 x8 x9 x10 x11 x12 (x13 ++ ([(List.getD x0 (Int.toNat x2) (Tc.dflt tItem)).1] : List Bytes)))) none) none) none) (some ⟨[.agg [.dat tI x10, .dat tI x11, .slc 0]], [(0, .arr .str x13)]⟩)) := hdEq (by kernel_rfl)
theorem f119_run (a0 : Bytes) : I119.run ⟨[.dat .str a0], []⟩ = (some ⟨[.dat .bool (!(a0 == a0))], []⟩) := (I119.run_eq _).trans (by kernel_rfl)
theorem f102_run (a0 : Bytes) (a1 : Bytes) : I102.run ⟨[.dat .str a0, .dat .str a1], []⟩ = (cond (t119_0 a0) (cond (t119_0 a1) (some ⟨[.dat tI (0 : Int)], []⟩) (some ⟨[.dat tI (-1 : Int)], []⟩)) (cond (t119_0 a1) (some ⟨[.dat tI (1 : Int)], []⟩) (cond (bLess a0 a1) (some ⟨[.dat tI (-1 : Int)], []⟩) (cond (!(bLess a0 a1 || a0 == a1)) (some ⟨[.dat tI (1 : Int)], []⟩) (some ⟨[.dat tI (0 : Int)], []⟩))))) := (I102.run_eq _).trans (by kernel_rfl)
noncomputable def f75h0 (x0 : (List Bytes)) (x1 : (List Bytes)) (x2 : (List Bytes)) (x3 : Int) (x4 : Int) : Option Fr := I75.hd 0 (mkF 36 [(0, .dat (.slice .str) x0), (1, .dat (.slice .str) x1), (9, .dat (.slice .str) x2), (10, .dat tI x3), (11, .dat tI x4)] [])
theorem f75_run (a0 : (List Bytes)) (a1 : (List Bytes)) : I75.run ⟨[.dat (.slice .str) a0, .dat (.slice .str) a1], []⟩ = (f75h0 a0 a1 a0 ((List.length a0 : Nat) : Int) (0 : Int)) := (I75.run_eq _).trans (by kernel_rfl)
theorem f75h0_eq (x0 : (List Bytes)) (x1 : (List Bytes)) (x2 : (List Bytes)) (x3 : Int) (x4 : Int) : f75h0 x0 x1 x2 x3 x4 = (cond (decide (x4 < x3)) (cond (decide ((0 : Int) ≤ x4)) (cond (decide (x4 < ((List.length x2 : Nat) : Int))) (cond (decide (x4 ≥ ((List.length x1 : Nat) : Int))) (some ⟨[.dat tI (1 : Int)], []⟩) (cond (decide ((0 : Int) ≤ x4)) (cond (decide (x4 < ((List.length x1 : Nat) : Int))) (cond ((cmpB (List.getD x2 (Int.toNat x4) (Tc.dflt .str)) (List.getD x1 (Int.toNat x4) (Tc.dflt .str))) != (0 : Int)) (some ⟨[.dat tI (cmpB (List.getD x2 (Int.toNat x4) (Tc.dflt .str)) (List.getD x1 (Int.toNat x4) (Tc.dflt .str)))], []⟩) (f75h0 x0 x1 x2 x3 (wrap .i64 (x4 + (1 : Int))))) none) none)) none) none) (cond (decide (((List.length x0 : Nat) : Int) < ((List.length x1 : Nat) : Int))) (some ⟨[.dat tI (-1 : Int)], []⟩) (some ⟨[.dat tI (0 : Int)], []⟩))) := hdEq (by kernel_rfl)
theorem f49_run (a0 : Rank) (a1 : Rank) : I49.run ⟨[.dat tRank a0, .dat tRank a1], []⟩ = (cond (a0.1 != a1.1) (some ⟨[.dat .bool (decide (a0.1 < a1.1))], []⟩) (cond (a0.2.1 != a1.2.1) (some ⟨[.dat .bool (decide (a0.2.1 < a1.2.1))], []⟩) (cond (decide (List.length a0.2.2 ≤ 1000)) (some ⟨[.dat .bool (decide ((cmpS a0.2.2 a1.2.2) < (0 : Int)))], []⟩) none))) := (I49.run_eq _).trans (by kernel_rfl)
theorem f47_run (c1 : Int) (c2 : Int) (c3 : Int) (c4 : Int) (sm : Bool) (bl : Int) (bp : Int) (bk : (List Bytes)) (xs : (List Item)) : I47.run ⟨[.ptr 0 0, .ptr 1 0, .ptr 2 0], [(0, .box [.slc 3, .dat tI c1, .dat tI c2, .dat tI c3, .dat tI c4]), (1, .box [.dat .bool sm]), (2, .box [.dat tI bl, .dat tI bp, .dat (.slice .str) bk]), (3, .arr tItem xs)]⟩ = (cond (decide (List.length (xs, (c1, (c2, (c3, c4)))).1 ≤ 1000) && partsOk (xs, (c1, (c2, (c3, c4)))).1) (cond (!sm) (some ⟨[], [(0, .box [.slc 3, .dat tI c1, .dat tI c2, .dat tI c3, .dat tI c4]), (1, .box [.dat .bool true]), (2, .box [.dat tI (rankF (xs, (c1, (c2, (c3, c4))))).1, .dat tI (rankF (xs, (c1, (c2, (c3, c4))))).2.1, .dat (.slice .str) ((rankF (xs, (c1, (c2, (c3, c4))))).2.2)]), (3, .arr tItem xs)]⟩) (cond (decide (List.length ((rankF (xs, (c1, (c2, (c3, c4))))).1, ((rankF (xs, (c1, (c2, (c3, c4))))).2.1, ((rankF (xs, (c1, (c2, (c3, c4))))).2.2))).2.2 ≤ 1000)) (cond (lessR ((rankF (xs, (c1, (c2, (c3, c4))))).1, ((rankF (xs, (c1, (c2, (c3, c4))))).2.1, ((rankF (xs, (c1, (c2, (c3, c4))))).2.2))) (bl, (bp, bk))) (some ⟨[], [(0, .box [.slc 3, .dat tI c1, .dat tI c2, .dat tI c3, .dat tI c4]), (1, .box [.dat .bool true]), (2, .box [.dat tI (rankF (xs, (c1, (c2, (c3, c4))))).1, .dat tI (rankF (xs, (c1, (c2, (c3, c4))))).2.1, .dat (.slice .str) ((rankF (xs, (c1, (c2, (c3, c4))))).2.2)]), (3, .arr tItem xs)]⟩) (some ⟨[], [(0, .box [.slc 3, .dat tI c1, .dat tI c2, .dat tI c3, .dat tI c4]), (1, .box [.dat .bool sm]), (2, .box [.dat tI bl, .dat tI bp, .dat (.slice .str) bk]), (3, .arr tItem xs)]⟩)) none)) none) := (I47.run_eq _).trans (by kernel_rfl)
noncomputable def f46h0 (x0 : Int) (x1 : Int) (x2 : (List Item)) (x3 : Int) (x4 : Int) (x5 : Int) (x6 : Int) (x7 : Bool) (x8 : Int) (x9 : Int) (x10 : (List Bytes)) : Option Fr := I46.hd 0 (mkF 53 [(0, .slc 0), (1, .dat tI x0), (2, .clos 47 [.ptr 1 0, .ptr 2 0, .ptr 3 0]), (6, .dat tI x1)] [(0, .arr tItem x2), (1, .box [.slc 0, .dat tI x3, .dat tI x4, .dat tI x5, .dat tI x6]), (2, .box [.dat .bool x7]), (3, .box [.dat tI x8, .dat tI x9, .dat (.slice .str) x10])])
theorem f46_run (fr : Int) (xs : (List Item)) (c1 : Int) (c2 : Int) (c3 : Int) (c4 : Int) (sm : Bool) (bl : Int) (bp : Int) (bk : (List Bytes)) : I46.run ⟨[.slc 0, .dat tI fr, .clos 47 [.ptr 1 0, .ptr 2 0, .ptr 3 0]], [(0, .arr tItem xs), (1, .box [.slc 0, .dat tI c1, .dat tI c2, .dat tI c3, .dat tI c4]), (2, .box [.dat .bool sm]), (3, .box [.dat tI bl, .dat tI bp, .dat (.slice .str) bk])]⟩ = (cond (fr == ((List.length xs : Nat) : Int)) (cond (decide (List.length xs ≤ 1000) && partsOk xs) (some ⟨[], [(0, .arr tItem (xs)), (1, .box [.slc 0, .dat tI (c1), .dat tI (c2), .dat tI (c3), .dat tI (c4)]), (2, .box [.dat .bool ((updF (rankF (xs, (c1, (c2, (c3, c4))))) (sm, (bl, (bp, bk)))).1)]), (3, .box [.dat tI ((updF (rankF (xs, (c1, (c2, (c3, c4))))) (sm, (bl, (bp, bk)))).2.1), .dat tI ((updF (rankF (xs, (c1, (c2, (c3, c4))))) (sm, (bl, (bp, bk)))).2.2.1), .dat (.slice .str) ((updF (rankF (xs, (c1, (c2, (c3, c4))))) (sm, (bl, (bp, bk)))).2.2.2)])]⟩) none) (f46h0 fr fr xs c1 c2 c3 c4 sm bl bp bk)) := (I46.run_eq _).trans (by kernel_rfl)
theorem f46h0_eq (x0 : Int) (x1 : Int) (x2 : (List Item)) (x3 : Int) (x4 : Int) (x5 : Int) (x6 : Int) (x7 : Bool) (x8 : Int) (x9 : Int) (x10 : (List Bytes)) : f46h0 x0 x1 x2 x3 x4 x5 x6 x7 x8 x9 x10 = (cond (decide (x1 < ((List.length x2 : Nat) : Int))) (cond (decide ((0 : Int) ≤ x1)) (cond (decide (x1 < ((List.length x2 : Nat) : Int))) (cond (decide ((Int.toNat x1) < List.length x2)) (cond (decide ((0 : Int) ≤ x0)) (cond (decide (x0 < ((List.length x2 : Nat) : Int))) (cond (decide ((Int.toNat x0) < List.length x2)) (cond (decide ((0 : Int) ≤ x0)) (cond (decide (x0 < ((List.length x2 : Nat) : Int))) (cond (decide ((Int.toNat x0) < List.length x2)) (cond (decide ((0 : Int) ≤ x1)) (cond (decide (x1 < ((List.length (List.set x2 (Int.toNat x0) (List.getD x2 (Int.toNat x1) (Tc.dflt tItem))) : Nat) : Int))) (cond (decide ((Int.toNat x1) < List.length (List.set x2 (Int.toNat x0) (List.getD x2 (Int.toNat x1) (Tc.dflt tItem))))) none none) none) none) none) none) none) none) none) none) none) none) none) (some ⟨[], [(0, .arr tItem x2), (1, .box [.slc 0, .dat tI x3, .dat tI x4, .dat tI x5, .dat tI x6]), (2, .box [.dat .bool x7]), (3, .box [.dat tI x8, .dat tI x9, .dat (.slice .str) x10])]⟩)) := hdEq (by kernel_rfl)
noncomputable def f46ah0 (x0 : Int) (x1 : Int) (x2 : (List Item)) (x3 : Int) (x4 : Int) (x5 : Int) (x6 : Int) (x7 : Bool) (x8 : Int) (x9 : Int) (x10 : (List Bytes)) : Option Fr := I46a.hd 0 (mkF 53 [(0, .slc 0), (1, .dat tI x0), (2, .clos 47 [.ptr 1 0, .ptr 2 0, .ptr 3 0]), (6, .dat tI x1)] [(0, .arr tItem x2), (1, .box [.slc 0, .dat tI x3, .dat tI x4, .dat tI x5, .dat tI x6]), (2, .box [.dat .bool x7]), (3, .box [.dat tI x8, .dat tI x9, .dat (.slice .str) x10])])
theorem f46a_run (fr : Int) (xs : (List Item)) (c1 : Int) (c2 : Int) (c3 : Int) (c4 : Int) (sm : Bool) (bl : Int) (bp : Int) (bk : (List Bytes)) : I46a.run ⟨[.slc 0, .dat tI fr, .clos 47 [.ptr 1 0, .ptr 2 0, .ptr 3 0]], [(0, .arr tItem xs), (1, .box [.slc 0, .dat tI c1, .dat tI c2, .dat tI c3, .dat tI c4]), (2, .box [.dat .bool sm]), (3, .box [.dat tI bl, .dat tI bp, .dat (.slice .str) bk])]⟩ = (cond (fr == ((List.length xs : Nat) : Int)) (cond (decide (List.length xs ≤ 1000) && partsOk xs) (some ⟨[], [(0, .arr tItem (xs)), (1, .box [.slc 0, .dat tI (c1), .dat tI (c2), .dat tI (c3), .dat tI (c4)]), (2, .box [.dat .bool ((updF (rankF (xs, (c1, (c2, (c3, c4))))) (sm, (bl, (bp, bk)))).1)]), (3, .box [.dat tI ((updF (rankF (xs, (c1, (c2, (c3, c4))))) (sm, (bl, (bp, bk)))).2.1), .dat tI ((updF (rankF (xs, (c1, (c2, (c3, c4))))) (sm, (bl, (bp, bk)))).2.2.1), .dat (.slice .str) ((updF (rankF (xs, (c1, (c2, (c3, c4))))) (sm, (bl, (bp, bk)))).2.2.2)])]⟩) none) (f46ah0 fr fr xs c1 c2 c3 c4 sm bl bp bk)) := (I46a.run_eq _).trans (by kernel_rfl)
theorem f46ah0_eq (x0 : Int) (x1 : Int) (x2 : (List Item)) (x3 : Int) (x4 : Int) (x5 : Int) (x6 : Int) (x7 : Bool) (x8 : Int) (x9 : Int) (x10 : (List Bytes)) : f46ah0 x0 x1 x2 x3 x4 x5 x6 x7 x8 x9 x10 = (cond (decide (x1 < ((List.length x2 : Nat) : Int))) (cond (decide ((0 : Int) ≤ x1)) (cond (decide (x1 < ((List.length x2 : Nat) : Int))) (cond (decide ((Int.toNat x1) < List.length x2)) (cond (decide ((0 : Int) ≤ x0)) (cond (decide (x0 < ((List.length x2 : Nat) : Int))) (cond (decide ((Int.toNat x0) < List.length x2)) (cond (decide ((0 : Int) ≤ x0)) (cond (decide (x0 < ((List.length x2 : Nat) : Int))) (cond (decide ((Int.toNat x0) < List.length x2)) (cond (decide ((0 : Int) ≤ x1)) (cond (decide (x1 < ((List.length (List.set x2 (Int.toNat x0) (List.getD x2 (Int.toNat x1) (Tc.dflt tItem))) : Nat) : Int))) (cond (decide ((Int.toNat x1) < List.length (List.set x2 (Int.toNat x0) (List.getD x2 (Int.toNat x1) (Tc.dflt tItem))))) (cond (decide (0 ≤ (wrap .i64 (x0 + (1 : Int)))) && decide ((wrap .i64 (x0 + (1 : Int))) ≤ (List.length (List.set (List.set x2 (Int.toNat x0) (List.getD x2 (Int.toNat x1) (Tc.dflt tItem))) (Int.toNat x1) (List.getD x2 (Int.toNat x0) (Tc.dflt tItem))) : Int)) && decide ((List.length (List.set (List.set x2 (Int.toNat x0) (List.getD x2 (Int.toNat x1) (Tc.dflt tItem))) (Int.toNat x1) (List.getD x2 (Int.toNat x0) (Tc.dflt tItem))) : Int) - (wrap .i64 (x0 + (1 : Int))) ≤ 0) && partsOk (List.set (List.set x2 (Int.toNat x0) (List.getD x2 (Int.toNat x1) (Tc.dflt tItem))) (Int.toNat x1) (List.getD x2 (Int.toNat x0) (Tc.dflt tItem))) && decide (List.length (List.set (List.set x2 (Int.toNat x0) (List.getD x2 (Int.toNat x1) (Tc.dflt tItem))) (Int.toNat x1) (List.getD x2 (Int.toNat x0) (Tc.dflt tItem))) ≤ 5)) (cond (decide ((0 : Int) ≤ x1)) (cond (decide (x1 < ((List.length ((List.set (List.set x2 (Int.toNat x0) (List.getD x2 (Int.toNat x1) (Tc.dflt tItem))) (Int.toNat x1) (List.getD x2 (Int.toNat x0) (Tc.dflt tItem)))) : Nat) : Int))) (cond (decide ((Int.toNat x1) < List.length ((List.set (List.set x2 (Int.toNat x0) (List.getD x2 (Int.toNat x1) (Tc.dflt tItem))) (Int.toNat x1) (List.getD x2 (Int.toNat x0) (Tc.dflt tItem)))))) (cond (decide ((0 : Int) ≤ x0)) (cond (decide (x0 < ((List.length ((List.set (List.set x2 (Int.toNat x0) (List.getD x2 (Int.toNat x1) (Tc.dflt tItem))) (Int.toNat x1) (List.getD x2 (Int.toNat x0) (Tc.dflt tItem)))) : Nat) : Int))) (cond (decide ((Int.toNat x0) < List.length ((List.set (List.set x2 (Int.toNat x0) (List.getD x2 (Int.toNat x1) (Tc.dflt tItem))) (Int.toNat x1) (List.getD x2 (Int.toNat x0) (Tc.dflt tItem)))))) (cond (decide ((0 : Int) ≤ x0)) (cond (decide (x0 < ((List.length ((List.set (List.set x2 (Int.toNat x0) (List.getD x2 (Int.toNat x1) (Tc.dflt tItem))) (Int.toNat x1) (List.getD x2 (Int.toNat x0) (Tc.dflt tItem)))) : Nat) : Int))) (cond (decide ((Int.toNat x0) < List.length ((List.set (List.set x2 (Int.toNat x0) (List.getD x2 (Int.toNat x1) (Tc.dflt tItem))) (Int.toNat x1) (List.getD x2 (Int.toNat x0) (Tc.dflt tItem)))))) (cond (decide ((0 : Int) ≤ x1)) (cond (decide (x1 < ((List.length (List.set ((List.set (List.set x2 (Int.toNat x0) (List.getD x2 (Int.toNat x1) (Tc.dflt tItem))) (Int.toNat x1) (List.getD x2 (Int.toNat x0) (Tc.dflt tItem)))) (Int.toNat x0) (List.getD ((List.set (List.set x2 (Int.toNat x0) (List.getD x2 (Int.toNat x1) (Tc.dflt tItem))) (Int.toNat x1) (List.getD x2 (Int.toNat x0) (Tc.dflt tItem)))) (Int.toNat x1) (Tc.dflt tItem))) : Nat) : Int))) (cond (decide ((Int.toNat x1) < List.length (List.set ((List.set (List.set x2 (Int.toNat x0) (List.getD x2 (Int.toNat x1) (Tc.dflt tItem))) (Int.toNat x1) (List.getD x2 (Int.toNat x0) (Tc.dflt tItem)))) (Int.toNat x0) (List.getD ((List.set (List.set x2 (Int.toNat x0) (List.getD x2 (Int.toNat x1) (Tc.dflt tItem))) (Int.toNat x1) (List.getD x2 (Int.toNat x0) (Tc.dflt tItem)))) (Int.toNat x1) (Tc.dflt tItem))))) (f46ah0 x0 (wrap .i64 (x1 + (1 : Int))) (List.set (List.set ((List.set (List.set x2 (Int.toNat x0) (List.getD x2 (Int.toNat x1) (Tc.dflt tItem))) (Int.toNat x1) (List.getD x2 (Int.toNat x0) (Tc.dflt tItem)))) (Int.toNat x0) (List.getD ((List.set (List.set x2 (Int.toNat x0) (List.getD x2 (Int.toNat x1) (Tc.dflt tItem))) (Int.toNat x1) (List.getD x2 (Int.toNat x0) (Tc.dflt tItem)))) (Int.toNat x1) (Tc.dflt tItem))) (Int.toNat x1) (List.getD ((List.set (List.set x2 (Int.toNat x0) (List.getD x2 (Int.toNat x1) (Tc.dflt tItem))) (Int.toNat x1) (List.getD x2 (Int.toNat x0) (Tc.dflt tItem)))) (Int.toNat x0) (Tc.dflt tItem))) (x3) (x4) (x5) (x6) ((ordF (x3, (x4, (x5, x6))) (List.length (List.set (List.set x2 (Int.toNat x0) (List.getD x2 (Int.toNat x1) (Tc.dflt tItem))) (Int.toNat x1) (List.getD x2 (Int.toNat x0) (Tc.dflt tItem))) - Int.toNat (wrap .i64 (x0 + (1 : Int)))) (List.set (List.set x2 (Int.toNat x0) (List.getD x2 (Int.toNat x1) (Tc.dflt tItem))) (Int.toNat x1) (List.getD x2 (Int.toNat x0) (Tc.dflt tItem))) (Int.toNat (wrap .i64 (x0 + (1 : Int)))) (x7, (x8, (x9, x10)))).1) ((ordF (x3, (x4, (x5, x6))) (List.length (List.set (List.set x2 (Int.toNat x0) (List.getD x2 (Int.toNat x1) (Tc.dflt tItem))) (Int.toNat x1) (List.getD x2 (Int.toNat x0) (Tc.dflt tItem))) - Int.toNat (wrap .i64 (x0 + (1 : Int)))) (List.set (List.set x2 (Int.toNat x0) (List.getD x2 (Int.toNat x1) (Tc.dflt tItem))) (Int.toNat x1) (List.getD x2 (Int.toNat x0) (Tc.dflt tItem))) (Int.toNat (wrap .i64 (x0 + (1 : Int)))) (x7, (x8, (x9, x10)))).2.1) ((ordF (x3, (x4, (x5, x6))) (List.length (List.set (List.set x2 (Int.toNat x0) (List.getD x2 (Int.toNat x1) (Tc.dflt tItem))) (Int.toNat x1) (List.getD x2 (Int.toNat x0) (Tc.dflt tItem))) - Int.toNat (wrap .i64 (x0 + (1 : Int)))) (List.set (List.set x2 (Int.toNat x0) (List.getD x2 (Int.toNat x1) (Tc.dflt tItem))) (Int.toNat x1) (List.getD x2 (Int.toNat x0) (Tc.dflt tItem))) (Int.toNat (wrap .i64 (x0 + (1 : Int)))) (x7, (x8, (x9, x10)))).2.2.1) ((ordF (x3, (x4, (x5, x6))) (List.length (List.set (List.set x2 (Int.toNat x0) (List.getD x2 (Int.toNat x1) (Tc.dflt tItem))) (Int.toNat x1) (List.getD x2 (Int.toNat x0) (Tc.dflt tItem))) - Int.toNat (wrap .i64 (x0 + (1 : Int)))) (List.set (List.set x2 (Int.toNat x0) (List.getD x2 (Int.toNat x1) (Tc.dflt tItem))) (Int.toNat x1) (List.getD x2 (Int.toNat x0) (Tc.dflt tItem))) (Int.toNat (wrap .i64 (x0 + (1 : Int)))) (x7, (x8, (x9, x10)))).2.2.2)) none) none) none) none) none) none) none) none) none) none) none) none) none) none) none) none) none) none) none) none) none) none) none) none) none) (some ⟨[], [(0, .arr tItem x2), (1, .box [.slc 0, .dat tI x3, .dat tI x4, .dat tI x5, .dat tI x6]), (2, .box [.dat .bool x7]), (3, .box [.dat tI x8, .dat tI x9, .dat (.slice .str) x10])]⟩)) := hdEq (by kernel_rfl)
noncomputable def f46bh0 (x0 : Int) (x1 : Int) (x2 : (List Item)) (x3 : Int) (x4 : Int) (x5 : Int) (x6 : Int) (x7 : Bool) (x8 : Int) (x9 : Int) (x10 : (List Bytes)) : Option Fr := I46b.hd 0 (mkF 53 [(0, .slc 0), (1, .dat tI x0), (2, .clos 47 [.ptr 1 0, .ptr 2 0, .ptr 3 0]), (6, .dat tI x1)] [(0, .arr tItem x2), (1, .box [.slc 0, .dat tI x3, .dat tI x4, .dat tI x5, .dat tI x6]), (2, .box [.dat .bool x7]), (3, .box [.dat tI x8, .dat tI x9, .dat (.slice .str) x10])])
theorem f46b_run (fr : Int) (xs : (List Item)) (c1 : Int) (c2 : Int) (c3 : Int) (c4 : Int) (sm : Bool) (bl : Int) (bp : Int) (bk : (List Bytes)) : I46b.run ⟨[.slc 0, .dat tI fr, .clos 47 [.ptr 1 0, .ptr 2 0, .ptr 3 0]], [(0, .arr tItem xs), (1, .box [.slc 0, .dat tI c1, .dat tI c2, .dat tI c3, .dat tI c4]), (2, .box [.dat .bool sm]), (3, .box [.dat tI bl, .dat tI bp, .dat (.slice .str) bk])]⟩ = (cond (fr == ((List.length xs : Nat) : Int)) (cond (decide (List.length xs ≤ 1000) && partsOk xs) (some ⟨[], [(0, .arr tItem (xs)), (1, .box [.slc 0, .dat tI (c1), .dat tI (c2), .dat tI (c3), .dat tI (c4)]), (2, .box [.dat .bool ((updF (rankF (xs, (c1, (c2, (c3, c4))))) (sm, (bl, (bp, bk)))).1)]), (3, .box [.dat tI ((updF (rankF (xs, (c1, (c2, (c3, c4))))) (sm, (bl, (bp, bk)))).2.1), .dat tI ((updF (rankF (xs, (c1, (c2, (c3, c4))))) (sm, (bl, (bp, bk)))).2.2.1), .dat (.slice .str) ((updF (rankF (xs, (c1, (c2, (c3, c4))))) (sm, (bl, (bp, bk)))).2.2.2)])]⟩) none) (f46bh0 fr fr xs c1 c2 c3 c4 sm bl bp bk)) := (I46b.run_eq _).trans (by kernel_rfl)
theorem f46bh0_eq (x0 : Int) (x1 : Int) (x2 : (List Item)) (x3 : Int) (x4 : Int) (x5 : Int) (x6 : Int) (x7 : Bool) (x8 : Int) (x9 : Int) (x10 : (List Bytes)) : f46bh0 x0 x1 x2 x3 x4 x5 x6 x7 x8 x9 x10 = (cond (decide (x1 < ((List.length x2 : Nat) : Int))) (cond (decide ((0 : Int) ≤ x1)) (cond (decide (x1 < ((List.length x2 : Nat) : Int))) (cond (decide ((Int.toNat x1) < List.length x2)) (cond (decide ((0 : Int) ≤ x0)) (cond (decide (x0 < ((List.length x2 : Nat) : Int))) (cond (decide ((Int.toNat x0) < List.length x2)) (cond (decide ((0 : Int) ≤ x0)) (cond (decide (x0 < ((List.length x2 : Nat) : Int))) (cond (decide ((Int.toNat x0) < List.length x2)) (cond (decide ((0 : Int) ≤ x1)) (cond (decide (x1 < ((List.length (List.set x2 (Int.toNat x0) (List.getD x2 (Int.toNat x1) (Tc.dflt tItem))) : Nat) : Int))) (cond (decide ((Int.toNat x1) < List.length (List.set x2 (Int.toNat x0) (List.getD x2 (Int.toNat x1) (Tc.dflt tItem))))) (cond (decide (0 ≤ (wrap .i64 (x0 + (1 : Int)))) && decide ((wrap .i64 (x0 + (1 : Int))) ≤ (List.length (List.set (List.set x2 (Int.toNat x0) (List.getD x2 (Int.toNat x1) (Tc.dflt tItem))) (Int.toNat x1) (List.getD x2 (Int.toNat x0) (Tc.dflt tItem))) : Int)) && decide ((List.length (List.set (List.set x2 (Int.toNat x0) (List.getD x2 (Int.toNat x1) (Tc.dflt tItem))) (Int.toNat x1) (List.getD x2 (Int.toNat x0) (Tc.dflt tItem))) : Int) - (wrap .i64 (x0 + (1 : Int))) ≤ 1) && partsOk (List.set (List.set x2 (Int.toNat x0) (List.getD x2 (Int.toNat x1) (Tc.dflt tItem))) (Int.toNat x1) (List.getD x2 (Int.toNat x0) (Tc.dflt tItem))) && decide (List.length (List.set (List.set x2 (Int.toNat x0) (List.getD x2 (Int.toNat x1) (Tc.dflt tItem))) (Int.toNat x1) (List.getD x2 (Int.toNat x0) (Tc.dflt tItem))) ≤ 5)) (cond (decide ((0 : Int) ≤ x1)) (cond (decide (x1 < ((List.length ((List.set (List.set x2 (Int.toNat x0) (List.getD x2 (Int.toNat x1) (Tc.dflt tItem))) (Int.toNat x1) (List.getD x2 (Int.toNat x0) (Tc.dflt tItem)))) : Nat) : Int))) (cond (decide ((Int.toNat x1) < List.length ((List.set (List.set x2 (Int.toNat x0) (List.getD x2 (Int.toNat x1) (Tc.dflt tItem))) (Int.toNat x1) (List.getD x2 (Int.toNat x0) (Tc.dflt tItem)))))) (cond (decide ((0 : Int) ≤ x0)) (cond (decide (x0 < ((List.length ((List.set (List.set x2 (Int.toNat x0) (List.getD x2 (Int.toNat x1) (Tc.dflt tItem))) (Int.toNat x1) (List.getD x2 (Int.toNat x0) (Tc.dflt tItem)))) : Nat) : Int))) (cond (decide ((Int.toNat x0) < List.length ((List.set (List.set x2 (Int.toNat x0) (List.getD x2 (Int.toNat x1) (Tc.dflt tItem))) (Int.toNat x1) (List.getD x2 (Int.toNat x0) (Tc.dflt tItem)))))) (cond (decide ((0 : Int) ≤ x0)) (cond (decide (x0 < ((List.length ((List.set (List.set x2 (Int.toNat x0) (List.getD x2 (Int.toNat x1) (Tc.dflt tItem))) (Int.toNat x1) (List.getD x2 (Int.toNat x0) (Tc.dflt tItem)))) : Nat) : Int))) (cond (decide ((Int.toNat x0) < List.length ((List.set (List.set x2 (Int.toNat x0) (List.getD x2 (Int.toNat x1) (Tc.dflt tItem))) (Int.toNat x1) (List.getD x2 (Int.toNat x0) (Tc.dflt tItem)))))) (cond (decide ((0 : Int) ≤ x1)) (cond (decide (x1 < ((List.length (List.set ((List.set (List.set x2 (Int.toNat x0) (List.getD x2 (Int.toNat x1) (Tc.dflt tItem))) (Int.toNat x1) (List.getD x2 (Int.toNat x0) (Tc.dflt tItem)))) (Int.toNat x0) (List.getD ((List.set (List.set x2 (Int.toNat x0) (List.getD x2 (Int.toNat x1) (Tc.dflt tItem))) (Int.toNat x1) (List.getD x2 (Int.toNat x0) (Tc.dflt tItem)))) (Int.toNat x1) (Tc.dflt tItem))) : Nat) : Int))) (cond (decide ((Int.toNat x1) < List.length (List.set ((List.set (List.set x2 (Int.toNat x0) (List.getD x2 (Int.toNat x1) (Tc.dflt tItem))) (Int.toNat x1) (List.getD x2 (Int.toNat x0) (Tc.dflt tItem)))) (Int.toNat x0) (List.getD ((List.set (List.set x2 (Int.toNat x0) (List.getD x2 (Int.toNat x1) (Tc.dflt tItem))) (Int.toNat x1) (List.getD x2 (Int.toNat x0) (Tc.dflt tItem)))) (Int.toNat x1) (Tc.dflt tItem))))) (f46bh0 x0 (wrap .i64 (x1 + (1 : Int))) (List.set (List.set ((List.set (List.set x2 (Int.toNat x0) (List.getD x2 (Int.toNat x1) (Tc.dflt tItem))) (Int.toNat x1) (List.getD x2 (Int.toNat x0) (Tc.dflt tItem)))) (Int.toNat x0) (List.getD ((List.set (List.set x2 (Int.toNat x0) (List.getD x2 (Int.toNat x1) (Tc.dflt tItem))) (Int.toNat x1) (List.getD x2 (Int.toNat x0) (Tc.dflt tItem)))) (Int.toNat x1) (Tc.dflt tItem))) (Int.toNat x1) (List.getD ((List.set (List.set x2 (Int.toNat x0) (List.getD x2 (Int.toNat x1) (Tc.dflt tItem))) (Int.toNat x1) (List.getD x2 (Int.toNat x0) (Tc.dflt tItem)))) (Int.toNat x0) (Tc.dflt tItem))) (x3) (x4) (x5) (x6) ((ordF (x3, (x4, (x5, x6))) (List.length (List.set (List.set x2 (Int.toNat x0) (List.getD x2 (Int.toNat x1) (Tc.dflt tItem))) (Int.toNat x1) (List.getD x2 (Int.toNat x0) (Tc.dflt tItem))) - Int.toNat (wrap .i64 (x0 + (1 : Int)))) (List.set (List.set x2 (Int.toNat x0) (List.getD x2 (Int.toNat x1) (Tc.dflt tItem))) (Int.toNat x1) (List.getD x2 (Int.toNat x0) (Tc.dflt tItem))) (Int.toNat (wrap .i64 (x0 + (1 : Int)))) (x7, (x8, (x9, x10)))).1) ((ordF (x3, (x4, (x5, x6))) (List.length (List.set (List.set x2 (Int.toNat x0) (List.getD x2 (Int.toNat x1) (Tc.dflt tItem))) (Int.toNat x1) (List.getD x2 (Int.toNat x0) (Tc.dflt tItem))) - Int.toNat (wrap .i64 (x0 + (1 : Int)))) (List.set (List.set x2 (Int.toNat x0) (List.getD x2 (Int.toNat x1) (Tc.dflt tItem))) (Int.toNat x1) (List.getD x2 (Int.toNat x0) (Tc.dflt tItem))) (Int.toNat (wrap .i64 (x0 + (1 : Int)))) (x7, (x8, (x9, x10)))).2.1) ((ordF (x3, (x4, (x5, x6))) (List.length (List.set (List.set x2 (Int.toNat x0) (List.getD x2 (Int.toNat x1) (Tc.dflt tItem))) (Int.toNat x1) (List.getD x2 (Int.toNat x0) (Tc.dflt tItem))) - Int.toNat (wrap .i64 (x0 + (1 : Int)))) (List.set (List.set x2 (Int.toNat x0) (List.getD x2 (Int.toNat x1) (Tc.dflt tItem))) (Int.toNat x1) (List.getD x2 (Int.toNat x0) (Tc.dflt tItem))) (Int.toNat (wrap .i64 (x0 + (1 : Int)))) (x7, (x8, (x9, x10)))).2.2.1) ((ordF (x3, (x4, (x5, x6))) (List.length (List.set (List.set x2 (Int.toNat x0) (List.getD x2 (Int.toNat x1) (Tc.dflt tItem))) (Int.toNat x1) (List.getD x2 (Int.toNat x0) (Tc.dflt tItem))) - Int.toNat (wrap .i64 (x0 + (1 : Int)))) (List.set (List.set x2 (Int.toNat x0) (List.getD x2 (Int.toNat x1) (Tc.dflt tItem))) (Int.toNat x1) (List.getD x2 (Int.toNat x0) (Tc.dflt tItem))) (Int.toNat (wrap .i64 (x0 + (1 : Int)))) (x7, (x8, (x9, x10)))).2.2.2)) none) none) none) none) none) none) none) none) none) none) none) none) none) none) none) none) none) none) none) none) none) none) none) none) none) (some ⟨[], [(0, .arr tItem x2), (1, .box [.slc 0, .dat tI x3, .dat tI x4, .dat tI x5, .dat tI x6]), (2, .box [.dat .bool x7]), (3, .box [.dat tI x8, .dat tI x9, .dat (.slice .str) x10])]⟩)) := hdEq (by kernel_rfl)
noncomputable def f46ch0 (x0 : Int) (x1 : Int) (x2 : (List Item)) (x3 : Int) (x4 : Int) (x5 : Int) (x6 : Int) (x7 : Bool) (x8 : Int) (x9 : Int) (x10 : (List Bytes)) : Option Fr := I46c.hd 0 (mkF 53 [(0, .slc 0), (1, .dat tI x0), (2, .clos 47 [.ptr 1 0, .ptr 2 0, .ptr 3 0]), (6, .dat tI x1)] [(0, .arr tItem x2), (1, .box [.slc 0, .dat tI x3, .dat tI x4, .dat tI x5, .dat tI x6]), (2, .box [.dat .bool x7]), (3, .box [.dat tI x8, .dat tI x9, .dat (.slice .str) x10])])
theorem f46c_run (fr : Int) (xs : (List Item)) (c1 : Int) (c2 : Int) (c3 : Int) (c4 : Int) (sm : Bool) (bl : Int) (bp : Int) (bk : (List Bytes)) : I46c.run ⟨[.slc 0, .dat tI fr, .clos 47 [.ptr 1 0, .ptr 2 0, .ptr 3 0]], [(0, .arr tItem xs), (1, .box [.slc 0, .dat tI c1, .dat tI c2, .dat tI c3, .dat tI c4]), (2, .box [.dat .bool sm]), (3, .box [.dat tI bl, .dat tI bp, .dat (.slice .str) bk])]⟩ = (cond (fr == ((List.length xs : Nat) : Int)) (cond (decide (List.length xs ≤ 1000) && partsOk xs) (some ⟨[], [(0, .arr tItem (xs)), (1, .box [.slc 0, .dat tI (c1), .dat tI (c2), .dat tI (c3), .dat tI (c4)]), (2, .box [.dat .bool ((updF (rankF (xs, (c1, (c2, (c3, c4))))) (sm, (bl, (bp, bk)))).1)]), (3, .box [.dat tI ((updF (rankF (xs, (c1, (c2, (c3, c4))))) (sm, (bl, (bp, bk)))).2.1), .dat tI ((updF (rankF (xs, (c1, (c2, (c3, c4))))) (sm, (bl, (bp, bk)))).2.2.1), .dat (.slice .str) ((updF (rankF (xs, (c1, (c2, (c3, c4))))) (sm, (bl, (bp, bk)))).2.2.2)])]⟩) none) (f46ch0 fr fr xs c1 c2 c3 c4 sm bl bp bk)) := (I46c.run_eq _).trans (by kernel_rfl)
theorem f46ch0_eq (x0 : Int) (x1 : Int) (x2 : (List Item)) (x3 : Int) (x4 : Int) (x5 : Int) (x6 : Int) (x7 : Bool) (x8 : Int) (x9 : Int) (x10 : (List Bytes)) : f46ch0 x0 x1 x2 x3 x4 x5 x6 x7 x8 x9 x10 = (cond (decide (x1 < ((List.length x2 : Nat) : Int))) (cond (decide ((0 : Int) ≤ x1)) (cond (decide (x1 < ((List.length x2 : Nat) : Int))) (cond (decide ((Int.toNat x1) < List.length x2)) (cond (decide ((0 : Int) ≤ x0)) (cond (decide (x0 < ((List.length x2 : Nat) : Int))) (cond (decide ((Int.toNat x0) < List.length x2)) (cond (decide ((0 : Int) ≤ x0)) (cond (decide (x0 < ((List.length x2 : Nat) : Int))) (cond (decide ((Int.toNat x0) < List.length x2)) (cond (decide ((0 : Int) ≤ x1)) (cond (decide (x1 < ((List.length (List.set x2 (Int.toNat x0) (List.getD x2 (Int.toNat x1) (Tc.dflt tItem))) : Nat) : Int))) (cond (decide ((Int.toNat x1) < List.length (List.set x2 (Int.toNat x0) (List.getD x2 (Int.toNat x1) (Tc.dflt tItem))))) (cond (decide (0 ≤ (wrap .i64 (x0 + (1 : Int)))) && decide ((wrap .i64 (x0 + (1 : Int))) ≤ (List.length (List.set (List.set x2 (Int.toNat x0) (List.getD x2 (Int.toNat x1) (Tc.dflt tItem))) (Int.toNat x1) (List.getD x2 (Int.toNat x0) (Tc.dflt tItem))) : Int)) && decide ((List.length (List.set (List.set x2 (Int.toNat x0) (List.getD x2 (Int.toNat x1) (Tc.dflt tItem))) (Int.toNat x1) (List.getD x2 (Int.toNat x0) (Tc.dflt tItem))) : Int) - (wrap .i64 (x0 + (1 : Int))) ≤ 2) && partsOk (List.set (List.set x2 (Int.toNat x0) (List.getD x2 (Int.toNat x1) (Tc.dflt tItem))) (Int.toNat x1) (List.getD x2 (Int.toNat x0) (Tc.dflt tItem))) && decide (List.length (List.set (List.set x2 (Int.toNat x0) (List.getD x2 (Int.toNat x1) (Tc.dflt tItem))) (Int.toNat x1) (List.getD x2 (Int.toNat x0) (Tc.dflt tItem))) ≤ 5)) (cond (decide ((0 : Int) ≤ x1)) (cond (decide (x1 < ((List.length ((List.set (List.set x2 (Int.toNat x0) (List.getD x2 (Int.toNat x1) (Tc.dflt tItem))) (Int.toNat x1) (List.getD x2 (Int.toNat x0) (Tc.dflt tItem)))) : Nat) : Int))) (cond (decide ((Int.toNat x1) < List.length ((List.set (List.set x2 (Int.toNat x0) (List.getD x2 (Int.toNat x1) (Tc.dflt tItem))) (Int.toNat x1) (List.getD x2 (Int.toNat x0) (Tc.dflt tItem)))))) (cond (decide ((0 : Int) ≤ x0)) (cond (decide (x0 < ((List.length ((List.set (List.set x2 (Int.toNat x0) (List.getD x2 (Int.toNat x1) (Tc.dflt tItem))) (Int.toNat x1) (List.getD x2 (Int.toNat x0) (Tc.dflt tItem)))) : Nat) : Int))) (cond (decide ((Int.toNat x0) < List.length ((List.set (List.set x2 (Int.toNat x0) (List.getD x2 (Int.toNat x1) (Tc.dflt tItem))) (Int.toNat x1) (List.getD x2 (Int.toNat x0) (Tc.dflt tItem)))))) (cond (decide ((0 : Int) ≤ x0)) (cond (decide (x0 < ((List.length ((List.set (List.set x2 (Int.toNat x0) (List.getD x2 (Int.toNat x1) (Tc.dflt tItem))) (Int.toNat x1) (List.getD x2 (Int.toNat x0) (Tc.dflt tItem)))) : Nat) : Int))) (cond (decide ((Int.toNat x0) < List.length ((List.set (List.set x2 (Int.toNat x0) (List.getD x2 (Int.toNat x1) (Tc.dflt tItem))) (Int.toNat x1) (List.getD x2 (Int.toNat x0) (Tc.dflt tItem)))))) (cond (decide ((0 : Int) ≤ x1)) (cond (decide (x1 < ((List.length (List.set ((List.set (List.set x2 (Int.toNat x0) (List.getD x2 (Int.toNat x1) (Tc.dflt tItem))) (Int.toNat x1) (List.getD x2 (Int.toNat x0) (Tc.dflt tItem)))) (Int.toNat x0) (List.getD ((List.set (List.set x2 (Int.toNat x0) (List.getD x2 (Int.toNat x1) (Tc.dflt tItem))) (Int.toNat x1) (List.getD x2 (Int.toNat x0) (Tc.dflt tItem)))) (Int.toNat x1) (Tc.dflt tItem))) : Nat) : Int))) (cond (decide ((Int.toNat x1) < List.length (List.set ((List.set (List.set x2 (Int.toNat x0) (List.getD x2 (Int.toNat x1) (Tc.dflt tItem))) (Int.toNat x1) (List.getD x2 (Int.toNat x0) (Tc.dflt tItem)))) (Int.toNat x0) (List.getD ((List.set (List.set x2 (Int.toNat x0) (List.getD x2 (Int.toNat x1) (Tc.dflt tItem))) (Int.toNat x1) (List.getD x2 (Int.toNat x0) (Tc.dflt tItem)))) (Int.toNat x1) (Tc.dflt tItem))))) (f46ch0 x0 (wrap .i64 (x1 + (1 : Int))) (List.set (List.set ((List.set (List.set x2 (Int.toNat x0) (List.getD x2 (Int.toNat x1) (Tc.dflt tItem))) (Int.toNat x1) (List.getD x2 (Int.toNat x0) (Tc.dflt tItem)))) (Int.toNat x0) (List.getD ((List.set (List.set x2 (Int.toNat x0) (List.getD x2 (Int.toNat x1) (Tc.dflt tItem))) (Int.toNat x1) (List.getD x2 (Int.toNat x0) (Tc.dflt tItem)))) (Int.toNat x1) (Tc.dflt tItem))) (Int.toNat x1) (List.getD ((List.set (List.set x2 (Int.toNat x0) (List.getD x2 (Int.toNat x1) (Tc.dflt tItem))) (Int.toNat x1) (List.getD x2 (Int.toNat x0) (Tc.dflt tItem)))) (Int.toNat x0) (Tc.dflt tItem))) (x3) (x4) (x5) (x6) ((ordF (x3, (x4, (x5, x6))) (List.length (List.set (List.set x2 (Int.toNat x0) (List.getD x2 (Int.toNat x1) (Tc.dflt tItem))) (Int.toNat x1) (List.getD x2 (Int.toNat x0) (Tc.dflt tItem))) - Int.toNat (wrap .i64 (x0 + (1 : Int)))) (List.set (List.set x2 (Int.toNat x0) (List.getD x2 (Int.toNat x1) (Tc.dflt tItem))) (Int.toNat x1) (List.getD x2 (Int.toNat x0) (Tc.dflt tItem))) (Int.toNat (wrap .i64 (x0 + (1 : Int)))) (x7, (x8, (x9, x10)))).1) ((ordF (x3, (x4, (x5, x6))) (List.length (List.set (List.set x2 (Int.toNat x0) (List.getD x2 (Int.toNat x1) (Tc.dflt tItem))) (Int.toNat x1) (List.getD x2 (Int.toNat x0) (Tc.dflt tItem))) - Int.toNat (wrap .i64 (x0 + (1 : Int)))) (List.set (List.set x2 (Int.toNat x0) (List.getD x2 (Int.toNat x1) (Tc.dflt tItem))) (Int.toNat x1) (List.getD x2 (Int.toNat x0) (Tc.dflt tItem))) (Int.toNat (wrap .i64 (x0 + (1 : Int)))) (x7, (x8, (x9, x10)))).2.1) ((ordF (x3, (x4, (x5, x6))) (List.length (List.set (List.set x2 (Int.toNat x0) (List.getD x2 (Int.toNat x1) (Tc.dflt tItem))) (Int.toNat x1) (List.getD x2 (Int.toNat x0) (Tc.dflt tItem))) - Int.toNat (wrap .i64 (x0 + (1 : Int)))) (List.set (List.set x2 (Int.toNat x0) (List.getD x2 (Int.toNat x1) (Tc.dflt tItem))) (Int.toNat x1) (List.getD x2 (Int.toNat x0) (Tc.dflt tItem))) (Int.toNat (wrap .i64 (x0 + (1 : Int)))) (x7, (x8, (x9, x10)))).2.2.1) ((ordF (x3, (x4, (x5, x6))) (List.length (List.set (List.set x2 (Int.toNat x0) (List.getD x2 (Int.toNat x1) (Tc.dflt tItem))) (Int.toNat x1) (List.getD x2 (Int.toNat x0) (Tc.dflt tItem))) - Int.toNat (wrap .i64 (x0 + (1 : Int)))) (List.set (List.set x2 (Int.toNat x0) (List.getD x2 (Int.toNat x1) (Tc.dflt tItem))) (Int.toNat x1) (List.getD x2 (Int.toNat x0) (Tc.dflt tItem))) (Int.toNat (wrap .i64 (x0 + (1 : Int)))) (x7, (x8, (x9, x10)))).2.2.2)) none) none) none) none) none) none) none) none) none) none) none) none) none) none) none) none) none) none) none) none) none) none) none) none) none) (some ⟨[], [(0, .arr tItem x2), (1, .box [.slc 0, .dat tI x3, .dat tI x4, .dat tI x5, .dat tI x6]), (2, .box [.dat .bool x7]), (3, .box [.dat tI x8, .dat tI x9, .dat (.slice .str) x10])]⟩)) := hdEq (by kernel_rfl)
end Go.Ev.X

set_option linter.unusedVariables false
set_option linter.unusedSimpArgs false
set_option maxRecDepth 100000
namespace Go.Ev.X
open Go Go.Ev Go.Proofs
noncomputable def f46dh0 (x0 : Int) (x1 : Int) (x2 : (List Item)) (x3 : Int) (x4 : Int) (x5 : Int) (x6 : Int) (x7 : Bool) (x8 : Int) (x9 : Int) (x10 : (List Bytes)) : Option Fr := I46d.hd 0 (mkF 53 [(0, .slc 0), (1, .dat tI x0), (2, .clos 47 [.ptr 1 0, .ptr 2 0, .ptr 3 0]), (6, .dat tI x1)] [(0, .arr tItem x2), (1, .box [.slc 0, .dat tI x3, .dat tI x4, .dat tI x5, .dat tI x6]), (2, .box [.dat .bool x7]), (3, .box [.dat tI x8, .dat tI x9, .dat (.slice .str) x10])])
theorem f46d_run (fr : Int) (xs : (List Item)) (c1 : Int) (c2 : Int) (c3 : Int) (c4 : Int) (sm : Bool) (bl : Int) (bp : Int) (bk : (List Bytes)) : I46d.run ⟨[.slc 0, .dat tI fr, .clos 47 [.ptr 1 0, .ptr 2 0, .ptr 3 0]], [(0, .arr tItem xs), (1, .box [.slc 0, .dat tI c1, .dat tI c2, .dat tI c3, .dat tI c4]), (2, .box [.dat .bool sm]), (3, .box [.dat tI bl, .dat tI bp, .dat (.slice .str) bk])]⟩ = (cond (fr == ((List.length xs : Nat) : Int)) (cond (decide (List.length xs ≤ 1000) && partsOk xs) (some ⟨[], [(0, .arr tItem (xs)), (1, .box [.slc 0, .dat tI (c1), .dat tI (c2), .dat tI (c3), .dat tI (c4)]), (2, .box [.dat .bool ((updF (rankF (xs, (c1, (c2, (c3, c4))))) (sm, (bl, (bp, bk)))).1)]), (3, .box [.dat tI ((updF (rankF (xs, (c1, (c2, (c3, c4))))) (sm, (bl, (bp, bk)))).2.1), .dat tI ((updF (rankF (xs, (c1, (c2, (c3, c4))))) (sm, (bl, (bp, bk)))).2.2.1), .dat (.slice .str) ((updF (rankF (xs, (c1, (c2, (c3, c4))))) (sm, (bl, (bp, bk)))).2.2.2)])]⟩) none) (f46dh0 fr fr xs c1 c2 c3 c4 sm bl bp bk)) := (I46d.run_eq _).trans (by kernel_rfl)
theorem f46dh0_eq (x0 : Int) (x1 : Int) (x2 : (List Item)) (x3 : Int) (x4 : Int) (x5 : Int) (x6 : Int) (x7 : Bool) (x8 : Int) (x9 : Int) (x10 : (List Bytes)) : f46dh0 x0 x1 x2 x3 x4 x5 x6 x7 x8 x9 x10 = (cond (decide (x1 < ((List.length x2 : Nat) : Int))) (cond (decide ((0 : Int) ≤ x1)) (cond (decide (x1 < ((List.length x2 : Nat) : Int))) (cond (decide ((Int.toNat x1) < List.length x2)) (cond (decide ((0 : Int) ≤ x0)) (cond (decide (x0 < ((List.length x2 : Nat) : Int))) (cond (decide ((Int.toNat x0) < List.length x2)) (cond (decide ((0 : Int) ≤ x0)) (cond (decide (x0 < ((List.length x2 : Nat) : Int))) (cond (decide ((Int.toNat x0) < List.length x2)) (cond (decide ((0 : Int) ≤ x1)) (cond (decide (x1 < ((List.length (List.set x2 (Int.toNat x0) (List.getD x2 (Int.toNat x1) (Tc.dflt tItem))) : Nat) : Int))) (cond (decide ((Int.toNat x1) < List.length (List.set x2 (Int.toNat x0) (List.getD x2 (Int.toNat x1) (Tc.dflt tItem))))) (cond (decide (0 ≤ (wrap .i64 (x0 + (1 : Int)))) && decide ((wrap .i64 (x0 + (1 : Int))) ≤ (List.length (List.set (List.set x2 (Int.toNat x0) (List.getD x2 (Int.toNat x1) (Tc.dflt tItem))) (Int.toNat x1) (List.getD x2 (Int.toNat x0) (Tc.dflt tItem))) : Int)) && decide ((List.length (List.set (List.set x2 (Int.toNat x0) (List.getD x2 (Int.toNat x1) (Tc.dflt tItem))) (Int.toNat x1) (List.getD x2 (Int.toNat x0) (Tc.dflt tItem))) : Int) - (wrap .i64 (x0 + (1 : Int))) ≤ 3) && partsOk (List.set (List.set x2 (Int.toNat x0) (List.getD x2 (Int.toNat x1) (Tc.dflt tItem))) (Int.toNat x1) (List.getD x2 (Int.toNat x0) (Tc.dflt tItem))) && decide (List.length (List.set (List.set x2 (Int.toNat x0) (List.getD x2 (Int.toNat x1) (Tc.dflt tItem))) (Int.toNat x1) (List.getD x2 (Int.toNat x0) (Tc.dflt tItem))) ≤ 5)) (cond (decide ((0 : Int) ≤ x1)) (cond (decide (x1 < ((List.length ((List.set (List.set x2 (Int.toNat x0) (List.getD x2 (Int.toNat x1) (Tc.dflt tItem))) (Int.toNat x1) (List.getD x2 (Int.toNat x0) (Tc.dflt tItem)))) : Nat) : Int))) (cond (decide ((Int.toNat x1) < List.length ((List.set (List.set x2 (Int.toNat x0) (List.getD x2 (Int.toNat x1) (Tc.dflt tItem))) (Int.toNat x1) (List.getD x2 (Int.toNat x0) (Tc.dflt tItem)))))) (cond (decide ((0 : Int) ≤ x0)) (cond (decide (x0 < ((List.length ((List.set (List.set x2 (Int.toNat x0) (List.getD x2 (Int.toNat x1) (Tc.dflt tItem))) (Int.toNat x1) (List.getD x2 (Int.toNat x0) (Tc.dflt tItem)))) : Nat) : Int))) (cond (decide ((Int.toNat x0) < List.length ((List.set (List.set x2 (Int.toNat x0) (List.getD x2 (Int.toNat x1) (Tc.dflt tItem))) (Int.toNat x1) (List.getD x2 (Int.toNat x0) (Tc.dflt tItem)))))) (cond (decide ((0 : Int) ≤ x0)) (cond (decide (x0 < ((List.length ((List.set (List.set x2 (Int.toNat x0) (List.getD x2 (Int.toNat x1) (Tc.dflt tItem))) (Int.toNat x1) (List.getD x2 (Int.toNat x0) (Tc.dflt tItem)))) : Nat) : Int))) (cond (decide ((Int.toNat x0) < List.length ((List.set (List.set x2 (Int.toNat x0) (List.getD x2 (Int.toNat x1) (Tc.dflt tItem))) (Int.toNat x1) (List.getD x2 (Int.toNat x0) (Tc.dflt tItem)))))) (cond (decide ((0 : Int) ≤ x1)) (cond (decide (x1 < ((List.length (List.set ((List.set (List.set x2 (Int.toNat x0) (List.getD x2 (Int.toNat x1) (Tc.dflt tItem))) (Int.toNat x1) (List.getD x2 (Int.toNat x0) (Tc.dflt tItem)))) (Int.toNat x0) (List.getD ((List.set (List.set x2 (Int.toNat x0) (List.getD x2 (Int.toNat x1) (Tc.dflt tItem))) (Int.toNat x1) (List.getD x2 (Int.toNat x0) (Tc.dflt tItem)))) (Int.toNat x1) (Tc.dflt tItem))) : Nat) : Int))) (cond (decide ((Int.toNat x1) < List.length (List.set ((List.set (List.set x2 (Int.toNat x0) (List.getD x2 (Int.toNat x1) (Tc.dflt tItem))) (Int.toNat x1) (List.getD x2 (Int.toNat x0) (Tc.dflt tItem)))) (Int.toNat x0) (List.getD ((List.set (List.set x2 (Int.toNat x0) (List.getD x2 (Int.toNat x1) (Tc.dflt tItem))) (Int.toNat x1) (List.getD x2 (Int.toNat x0) (Tc.dflt tItem)))) (Int.toNat x1) (Tc.dflt tItem))))) (f46dh0 x0 (wrap .i64 (x1 + (1 : Int))) (List.set (List.set ((List.set (List.set x2 (Int.toNat x0) (List.getD x2 (Int.toNat x1) (Tc.dflt tItem))) (Int.toNat x1) (List.getD x2 (Int.toNat x0) (Tc.dflt tItem)))) (Int.toNat x0) (List.getD ((List.set (List.set x2 (Int.toNat x0) (List.getD x2 (Int.toNat x1) (Tc.dflt tItem))) (Int.toNat x1) (List.getD x2 (Int.toNat x0) (Tc.dflt tItem)))) (Int.toNat x1) (Tc.dflt tItem))) (Int.toNat x1) (List.getD ((List.set (List.set x2 (Int.toNat x0) (List.getD x2 (Int.toNat x1) (Tc.dflt tItem))) (Int.toNat x1) (List.getD x2 (Int.toNat x0) (Tc.dflt tItem)))) (Int.toNat x0) (Tc.dflt tItem))) (x3) (x4) (x5) (x6) ((ordF (x3, (x4, (x5, x6))) (List.length (List.set (List.set x2 (Int.toNat x0) (List.getD x2 (Int.toNat x1) (Tc.dflt tItem))) (Int.toNat x1) (List.getD x2 (Int.toNat x0) (Tc.dflt tItem))) - Int.toNat (wrap .i64 (x0 + (1 : Int)))) (List.set (List.set x2 (Int.toNat x0) (List.getD x2 (Int.toNat x1) (Tc.dflt tItem))) (Int.toNat x1) (List.getD x2 (Int.toNat x0) (Tc.dflt tItem))) (Int.toNat (wrap .i64 (x0 + (1 : Int)))) (x7, (x8, (x9, x10)))).1) ((ordF (x3, (x4, (x5, x6))) (List.length (List.set (List.set x2 (Int.toNat x0) (List.getD x2 (Int.toNat x1) (Tc.dflt tItem))) (Int.toNat x1) (List.getD x2 (Int.toNat x0) (Tc.dflt tItem))) - Int.toNat (wrap .i64 (x0 + (1 : Int)))) (List.set (List.set x2 (Int.toNat x0) (List.getD x2 (Int.toNat x1) (Tc.dflt tItem))) (Int.toNat x1) (List.getD x2 (Int.toNat x0) (Tc.dflt tItem))) (Int.toNat (wrap .i64 (x0 + (1 : Int)))) (x7, (x8, (x9, x10)))).2.1) ((ordF (x3, (x4, (x5, x6))) (List.length (List.set (List.set x2 (Int.toNat x0) (List.getD x2 (Int.toNat x1) (Tc.dflt tItem))) (Int.toNat x1) (List.getD x2 (Int.toNat x0) (Tc.dflt tItem))) - Int.toNat (wrap .i64 (x0 + (1 : Int)))) (List.set (List.set x2 (Int.toNat x0) (List.getD x2 (Int.toNat x1) (Tc.dflt tItem))) (Int.toNat x1) (List.getD x2 (Int.toNat x0) (Tc.dflt tItem))) (Int.toNat (wrap .i64 (x0 + (1 : Int)))) (x7, (x8, (x9, x10)))).2.2.1) ((ordF (x3, (x4, (x5, x6))) (List.length (List.set (List.set x2 (Int.toNat x0) (List.getD x2 (Int.toNat x1) (Tc.dflt tItem))) (Int.toNat x1) (List.getD x2 (Int.toNat x0) (Tc.dflt tItem))) - Int.toNat (wrap .i64 (x0 + (1 : Int)))) (List.set (List.set x2 (Int.toNat x0) (List.getD x2 (Int.toNat x1) (Tc.dflt tItem))) (Int.toNat x1) (List.getD x2 (Int.toNat x0) (Tc.dflt tItem))) (Int.toNat (wrap .i64 (x0 + (1 : Int)))) (x7, (x8, (x9, x10)))).2.2.2)) none) none) none) none) none) none) none) none) none) none) none) none) none) none) none) none) none) none) none) none) none) none) none) none) none) (some ⟨[], [(0, .arr tItem x2), (1, .box [.slc 0, .dat tI x3, .dat tI x4, .dat tI x5, .dat tI x6]), (2, .box [.dat .bool x7]), (3, .box [.dat tI x8, .dat tI x9, .dat (.slice .str) x10])]⟩)) := hdEq (by kernel_rfl)
noncomputable def f46eh0 (x0 : Int) (x1 : Int) (x2 : (List Item)) (x3 : Int) (x4 : Int) (x5 : Int) (x6 : Int) (x7 : Bool) (x8 : Int) (x9 : Int) (x10 : (List Bytes)) : Option Fr := I46e.hd 0 (mkF 53 [(0, .slc 0), (1, .dat tI x0), (2, .clos 47 [.ptr 1 0, .ptr 2 0, .ptr 3 0]), (6, .dat tI x1)] [(0, .arr tItem x2), (1, .box [.slc 0, .dat tI x3, .dat tI x4, .dat tI x5, .dat tI x6]), (2, .box [.dat .bool x7]), (3, .box [.dat tI x8, .dat tI x9, .dat (.slice .str) x10])])
theorem f46e_run (fr : Int) (xs : (List Item)) (c1 : Int) (c2 : Int) (c3 : Int) (c4 : Int) (sm : Bool) (bl : Int) (bp : Int) (bk : (List Bytes)) : I46e.run ⟨[.slc 0, .dat tI fr, .clos 47 [.ptr 1 0, .ptr 2 0, .ptr 3 0]], [(0, .arr tItem xs), (1, .box [.slc 0, .dat tI c1, .dat tI c2, .dat tI c3, .dat tI c4]), (2, .box [.dat .bool sm]), (3, .box [.dat tI bl, .dat tI bp, .dat (.slice .str) bk])]⟩ = (cond (fr == ((List.length xs : Nat) : Int)) (cond (decide (List.length xs ≤ 1000) && partsOk xs) (some ⟨[], [(0, .arr tItem (xs)), (1, .box [.slc 0, .dat tI (c1), .dat tI (c2), .dat tI (c3), .dat tI (c4)]), (2, .box [.dat .bool ((updF (rankF (xs, (c1, (c2, (c3, c4))))) (sm, (bl, (bp, bk)))).1)]), (3, .box [.dat tI ((updF (rankF (xs, (c1, (c2, (c3, c4))))) (sm, (bl, (bp, bk)))).2.1), .dat tI ((updF (rankF (xs, (c1, (c2, (c3, c4))))) (sm, (bl, (bp, bk)))).2.2.1), .dat (.slice .str) ((updF (rankF (xs, (c1, (c2, (c3, c4))))) (sm, (bl, (bp, bk)))).2.2.2)])]⟩) none) (f46eh0 fr fr xs c1 c2 c3 c4 sm bl bp bk)) := (I46e.run_eq _).trans (by kernel_rfl)
theorem f46eh0_eq (x0 : Int) (x1 : Int) (x2 : (List Item)) (x3 : Int) (x4 : Int) (x5 : Int) (x6 : Int) (x7 : Bool) (x8 : Int) (x9 : Int) (x10 : (List Bytes)) : f46eh0 x0 x1 x2 x3 x4 x5 x6 x7 x8 x9 x10 = (cond (decide (x1 < ((List.length x2 : Nat) : Int))) (cond (decide ((0 : Int) ≤ x1)) (cond (decide (x1 < ((List.length x2 : Nat) : Int))) (cond (decide ((Int.toNat x1) < List.length x2)) (cond (decide ((0 : Int) ≤ x0)) (cond (decide (x0 < ((List.length x2 : Nat) : Int))) (cond (decide ((Int.toNat x0) < List.length x2)) (cond (decide ((0 : Int) ≤ x0)) (cond (decide (x0 < ((List.length x2 : Nat) : Int))) (cond (decide ((Int.toNat x0) < List.length x2)) (cond (decide ((0 : Int) ≤ x1)) (cond (decide (x1 < ((List.length (List.set x2 (Int.toNat x0) (List.getD x2 (Int.toNat x1) (Tc.dflt tItem))) : Nat) : Int))) (cond (decide ((Int.toNat x1) < List.length (List.set x2 (Int.toNat x0) (List.getD x2 (Int.toNat x1) (Tc.dflt tItem))))) (cond (decide (0 ≤ (wrap .i64 (x0 + (1 : Int)))) && decide ((wrap .i64 (x0 + (1 : Int))) ≤ (List.length (List.set (List.set x2 (Int.toNat x0) (List.getD x2 (Int.toNat x1) (Tc.dflt tItem))) (Int.toNat x1) (List.getD x2 (Int.toNat x0) (Tc.dflt tItem))) : Int)) && decide ((List.length (List.set (List.set x2 (Int.toNat x0) (List.getD x2 (Int.toNat x1) (Tc.dflt tItem))) (Int.toNat x1) (List.getD x2 (Int.toNat x0) (Tc.dflt tItem))) : Int) - (wrap .i64 (x0 + (1 : Int))) ≤ 4) && partsOk (List.set (List.set x2 (Int.toNat x0) (List.getD x2 (Int.toNat x1) (Tc.dflt tItem))) (Int.toNat x1) (List.getD x2 (Int.toNat x0) (Tc.dflt tItem))) && decide (List.length (List.set (List.set x2 (Int.toNat x0) (List.getD x2 (Int.toNat x1) (Tc.dflt tItem))) (Int.toNat x1) (List.getD x2 (Int.toNat x0) (Tc.dflt tItem))) ≤ 5)) (cond (decide ((0 : Int) ≤ x1)) (cond (decide (x1 < ((List.length ((List.set (List.set x2 (Int.toNat x0) (List.getD x2 (Int.toNat x1) (Tc.dflt tItem))) (Int.toNat x1) (List.getD x2 (Int.toNat x0) (Tc.dflt tItem)))) : Nat) : Int))) (cond (decide ((Int.toNat x1) < List.length ((List.set (List.set x2 (Int.toNat x0) (List.getD x2 (Int.toNat x1) (Tc.dflt tItem))) (Int.toNat x1) (List.getD x2 (Int.toNat x0) (Tc.dflt tItem)))))) (cond (decide ((0 : Int) ≤ x0)) (cond (decide (x0 < ((List.length ((List.set (List.set x2 (Int.toNat x0) (List.getD x2 (Int.toNat x1) (Tc.dflt tItem))) (Int.toNat x1) (List.getD x2 (Int.toNat x0) (Tc.dflt tItem)))) : Nat) : Int))) (cond (decide ((Int.toNat x0) < List.length ((List.set (List.set x2 (Int.toNat x0) (List.getD x2 (Int.toNat x1) (Tc.dflt tItem))) (Int.toNat x1) (List.getD x2 (Int.toNat x0) (Tc.dflt tItem)))))) (cond (decide ((0 : Int) ≤ x0)) (cond (decide (x0 < ((List.length ((List.set (List.set x2 (Int.toNat x0) (List.getD x2 (Int.toNat x1) (Tc.dflt tItem))) (Int.toNat x1) (List.getD x2 (Int.toNat x0) (Tc.dflt tItem)))) : Nat) : Int))) (cond (decide ((Int.toNat x0) < List.length ((List.set (List.set x2 (Int.toNat x0) (List.getD x2 (Int.toNat x1) (Tc.dflt tItem))) (Int.toNat x1) (List.getD x2 (Int.toNat x0) (Tc.dflt tItem)))))) (cond (decide ((0 : Int) ≤ x1)) (cond (decide (x1 < ((List.length (List.set ((List.set (List.set x2 (Int.toNat x0) (List.getD x2 (Int.toNat x1) (Tc.dflt tItem))) (Int.toNat x1) (List.getD x2 (Int.toNat x0) (Tc.dflt tItem)))) (Int.toNat x0) (List.getD ((List.set (List.set x2 (Int.toNat x0) (List.getD x2 (Int.toNat x1) (Tc.dflt tItem))) (Int.toNat x1) (List.getD x2 (Int.toNat x0) (Tc.dflt tItem)))) (Int.toNat x1) (Tc.dflt tItem))) : Nat) : Int))) (cond (decide ((Int.toNat x1) < List.length (List.set ((List.set (List.set x2 (Int.toNat x0) (List.getD x2 (Int.toNat x1) (Tc.dflt tItem))) (Int.toNat x1) (List.getD x2 (Int.toNat x0) (Tc.dflt tItem)))) (Int.toNat x0) (List.getD ((List.set (List.set x2 (Int.toNat x0) (List.getD x2 (Int.toNat x1) (Tc.dflt tItem))) (Int.toNat x1) (List.getD x2 (Int.toNat x0) (Tc.dflt tItem)))) (Int.toNat x1) (Tc.dflt tItem))))) (f46eh0 x0 (wrap .i64 (x1 + (1 : Int))) (List.set (List.set ((List.set (List.set x2 (Int.toNat x0) (List.getD x2 (Int.toNat x1) (Tc.dflt tItem))) (Int.toNat x1) (List.getD x2 (Int.toNat x0) (Tc.dflt tItem)))) (Int.toNat x0) (List.getD ((List.set (List.set x2 (Int.toNat x0) (List.getD x2 (Int.toNat x1) (Tc.dflt tItem))) (Int.toNat x1) (List.getD x2 (Int.toNat x0) (Tc.dflt tItem)))) (Int.toNat x1) (Tc.dflt tItem))) (Int.toNat x1) (List.getD ((List.set (List.set x2 (Int.toNat x0) (List.getD x2 (Int.toNat x1) (Tc.dflt tItem))) (Int.toNat x1) (List.getD x2 (Int.toNat x0) (Tc.dflt tItem)))) (Int.toNat x0) (Tc.dflt tItem))) (x3) (x4) (x5) (x6) ((ordF (x3, (x4, (x5, x6))) (List.length (List.set (List.set x2 (Int.toNat x0) (List.getD x2 (Int.toNat x1) (Tc.dflt tItem))) (Int.toNat x1) (List.getD x2 (Int.toNat x0) (Tc.dflt tItem))) - Int.toNat (wrap .i64 (x0 + (1 : Int)))) (List.set (List.set x2 (Int.toNat x0) (List.getD x2 (Int.toNat x1) (Tc.dflt tItem))) (Int.toNat x1) (List.getD x2 (Int.toNat x0) (Tc.dflt tItem))) (Int.toNat (wrap .i64 (x0 + (1 : Int)))) (x7, (x8, (x9, x10)))).1) ((ordF (x3, (x4, (x5, x6))) (List.length (List.set (List.set x2 (Int.toNat x0) (List.getD x2 (Int.toNat x1) (Tc.dflt tItem))) (Int.toNat x1) (List.getD x2 (Int.toNat x0) (Tc.dflt tItem))) - Int.toNat (wrap .i64 (x0 + (1 : Int)))) (List.set (List.set x2 (Int.toNat x0) (List.getD x2 (Int.toNat x1) (Tc.dflt tItem))) (Int.toNat x1) (List.getD x2 (Int.toNat x0) (Tc.dflt tItem))) (Int.toNat (wrap .i64 (x0 + (1 : Int)))) (x7, (x8, (x9, x10)))).2.1) ((ordF (x3, (x4, (x5, x6))) (List.length (List.set (List.set x2 (Int.toNat x0) (List.getD x2 (Int.toNat x1) (Tc.dflt tItem))) (Int.toNat x1) (List.getD x2 (Int.toNat x0) (Tc.dflt tItem))) - Int.toNat (wrap .i64 (x0 + (1 : Int)))) (List.set (List.set x2 (Int.toNat x0) (List.getD x2 (Int.toNat x1) (Tc.dflt tItem))) (Int.toNat x1) (List.getD x2 (Int.toNat x0) (Tc.dflt tItem))) (Int.toNat (wrap .i64 (x0 + (1 : Int)))) (x7, (x8, (x9, x10)))).2.2.1) ((ordF (x3, (x4, (x5, x6))) (List.length (List.set (List.set x2 (Int.toNat x0) (List.getD x2 (Int.toNat x1) (Tc.dflt tItem))) (Int.toNat x1) (List.getD x2 (Int.toNat x0) (Tc.dflt tItem))) - Int.toNat (wrap .i64 (x0 + (1 : Int)))) (List.set (List.set x2 (Int.toNat x0) (List.getD x2 (Int.toNat x1) (Tc.dflt tItem))) (Int.toNat x1) (List.getD x2 (Int.toNat x0) (Tc.dflt tItem))) (Int.toNat (wrap .i64 (x0 + (1 : Int)))) (x7, (x8, (x9, x10)))).2.2.2)) none) none) none) none) none) none) none) none) none) none) none) none) none) none) none) none) none) none) none) none) none) none) none) none) none) (some ⟨[], [(0, .arr tItem x2), (1, .box [.slc 0, .dat tI x3, .dat tI x4, .dat tI x5, .dat tI x6]), (2, .box [.dat .bool x7]), (3, .box [.dat tI x8, .dat tI x9, .dat (.slice .str) x10])]⟩)) := hdEq (by kernel_rfl)
theorem f19_run (a0 : (List Item)) : I19.run ⟨[.dat (.slice tItem) a0], []⟩ = (cond (List.isEmpty a0) (both (some ⟨[.slc 0], [(0, .arr tItem ([] : List Item))]⟩) (cond (decide ((List.length ([] : List Item) + List.length a0) * 64 ≤ 140737488355328)) (some ⟨[.slc 0], [(0, .arr tItem (([] : List Item) ++ a0))]⟩) none)) (cond (decide ((List.length ([] : List Item) + List.length a0) * 64 ≤ 140737488355328)) (some ⟨[.slc 0], [(0, .arr tItem (([] : List Item) ++ a0))]⟩) none)) := (I19.run_eq _).trans (by kernel_rfl)
theorem f23_run (a0 : Prgm) : I23.run ⟨[.dat tPrgm a0], []⟩ = (cond ((checkProg isKey (a0.1, (a0.2.1, (a0.2.2.1, (a0.2.2.2.1, a0.2.2.2.2))))) != (0 : Int)) (some ⟨[.dat (.slice .str) ([] : List Bytes), .dat tI (0 : Int), .dat tI (checkProg isKey (a0.1, (a0.2.1, (a0.2.2.1, (a0.2.2.2.1, a0.2.2.2.2)))))], []⟩) (cond (decide (((List.length a0.1 : Nat) : Int) > (7 : Int))) (some ⟨[.dat (.slice .str) ([] : List Bytes), .dat tI (0 : Int), .dat tI (2 : Int)], []⟩) (cond (decide (List.length a0.1 ≤ 1000)) (cond (decide (0 ≤ (0 : Int)) && decide ((0 : Int) ≤ (List.length (a0.1) : Int)) && decide ((List.length (a0.1) : Int) - (0 : Int) ≤ 5) && partsOk (a0.1) && decide (List.length (a0.1) ≤ 5)) (some ⟨[.dat (.slice .str) ((ordF (a0.2.1, (a0.2.2.1, (a0.2.2.2.1, a0.2.2.2.2))) (List.length (a0.1) - Int.toNat (0 : Int)) (a0.1) (Int.toNat (0 : Int)) (false, ((0 : Int), ((0 : Int), ([] : List Bytes))))).2.2.2), .dat tI ((ordF (a0.2.1, (a0.2.2.1, (a0.2.2.2.1, a0.2.2.2.2))) (List.length (a0.1) - Int.toNat (0 : Int)) (a0.1) (Int.toNat (0 : Int)) (false, ((0 : Int), ((0 : Int), ([] : List Bytes))))).2.1), .dat tI (0 : Int)], []⟩) none) none))) := (I23.run_eq _).trans (by kernel_rfl)
theorem f76_run (a0 : Item) (k : Bytes) : I76.run ⟨[.dat tItem a0, .ptr 0 0], [(0, .box [.dat .str k])]⟩ = (some ⟨[.dat .bool (a0.1 == k)], [(0, .box [.dat .str k])]⟩) := (I76.run_eq _).trans (by kernel_rfl)
noncomputable def f44ah0 (x0 : (List Item)) (x1 : Int) (x2 : Int) (x3 : Bytes) : Option Fr := I44a.hd 0 (mkF 19 [(0, .dat (.slice tItem) x0), (1, .clos 76 [.ptr 0 0]), (7, .dat tI x1), (8, .dat tI x2)] [(0, .box [.dat .str x3])])
theorem f44a_run (a0 : (List Item)) (k : Bytes) : I44a.run ⟨[.dat (.slice tItem) a0, .clos 76 [.ptr 0 0]], [(0, .box [.dat .str k])]⟩ = (f44ah0 a0 ((List.length a0 : Nat) : Int) (0 : Int) k) := (I44a.run_eq _).trans (by kernel_rfl)
theorem f44ah0_eq (x0 : (List Item)) (x1 : Int) (x2 : Int) (x3 : Bytes) : f44ah0 x0 x1 x2 x3 = (cond (decide (x2 < x1)) (cond (decide ((0 : Int) ≤ x2)) (cond (decide (x2 < ((List.length x0 : Nat) : Int))) (cond (t76_0 (List.getD x0 (Int.toNat x2) (Tc.dflt tItem)) x3) (some ⟨[.dat tI x2], [(0, .box [.dat .str x3])]⟩) (f44ah0 x0 x1 (wrap .i64 (x2 + (1 : Int))) x3)) none) none) (some ⟨[.dat tI (-1 : Int)], [(0, .box [.dat .str x3])]⟩)) := hdEq (by kernel_rfl)
theorem f50_run (a0 : Prgm) (a1 : Bytes) : I50.run ⟨[.dat tPrgm a0, .dat .str a1], []⟩ = (cond (decide (List.length a0.1 ≤ 1000)) (some ⟨[.dat tI (idxBy (fun o => t76_0 o a1) a0.1 0)], []⟩) none) := (I50.run_eq _).trans (by kernel_rfl)
theorem f22_run (a0 : (List Bytes)) : I22.run ⟨[.dat (.slice .str) a0], []⟩ = (cond (List.isEmpty a0) (both (some ⟨[.slc 0], [(0, .arr .str ([] : List Bytes))]⟩) (cond (decide ((List.length ([] : List Bytes) + List.length a0) * 16 ≤ 140737488355328)) (some ⟨[.slc 0], [(0, .arr .str (([] : List Bytes) ++ a0))]⟩) none)) (cond (decide ((List.length ([] : List Bytes) + List.length a0) * 16 ≤ 140737488355328)) (some ⟨[.slc 0], [(0, .arr .str (([] : List Bytes) ++ a0))]⟩) none)) := (I22.run_eq _).trans (by kernel_rfl)
theorem f51_run (a0 : Item) : I51.run ⟨[.dat tItem a0], []⟩ = (cond (decide (List.length a0.2.2.2 ≤ 1000)) (some ⟨[.dat tItem (a0.1, (a0.2.1, (a0.2.2.1, (a0.2.2.2))))], []⟩) none) := (I51.run_eq _).trans (by kernel_rfl)
noncomputable def f24h0 (x0 : (List Bytes)) (x1 : (List Bytes)) (x2 : Int) (x3 : Int) (x4 : (List Item)) (x5 : Int) (x6 : Int) (x7 : Int) (x8 : Int) (x9 : Int) (x10 : Int) (x11 : Int) (x12 : Int) (x13 : Int) (x14 : Int) (x15 : Int) (x16 : Int) (x17 : (List Item)) : Option Fr := I24.hd 0 (mkF 58 [(1, .dat (.slice .str) x0), (2, .ptr 500 0), (4, .ptr 501 0), (7, .ptr 502 0), (26, .dat (.slice .str) x1), (27, .dat tI x2), (28, .dat tI x3)] [(500, .box [.dat (.slice tItem) x4, .dat tI x5, .dat tI x6, .dat tI x7, .dat tI x8]), (501, .box [.slc 503, .dat tI x9, .dat tI x10, .dat tI x11, .dat tI x12]), (502, .box [.nil0, .dat tI x13, .dat tI x14, .dat tI x15, .dat tI x16]), (503, .arr tItem x17)])
noncomputable def f24h0x1 (x0 : (List Bytes)) (x1 : (List Bytes)) (x2 : Int) (x3 : Int) (x4 : (List Item)) (x5 : Int) (x6 : Int) (x7 : Int) (x8 : Int) (x9 : Int) (x10 : Int) (x11 : Int) (x12 : Int) (x13 : Int) (x14 : Int) (x15 : Int) (x16 : Int) (x17 : (List Item)) (x18 : (List Item)) : Option Fr := I24.hd 0 (mkF 58 [(1, .dat (.slice .str) x0), (2, .ptr 500 0), (4, .ptr 501 0), (7, .ptr 502 0), (26, .dat (.slice .str) x1), (27, .dat tI x2), (28, .dat tI x3)] [(500, .box [.dat (.slice tItem) x4, .dat tI x5, .dat tI x6, .dat tI x7, .dat tI x8]), (501, .box [.slc 503, .dat tI x9, .dat tI x10, .dat tI x11, .dat tI x12]), (502, .box [.slc 504, .dat tI x13, .dat tI x14, .dat tI x15, .dat tI x16]), (503, .arr tItem x17), (504, .arr tItem x18)])
theorem f24_run (a0 : Prgm) (a1 : (List Bytes)) : I24.run ⟨[.dat tPrgm a0, .dat (.slice .str) a1], []⟩ = (cond ((checkProg isKey (a0.1, (a0.2.1, (a0.2.2.1, (a0.2.2.2.1, a0.2.2.2.2))))) != (0 : Int)) (some ⟨[.dat tPrgm (([] : List Item), ((0 : Int), ((0 : Int), ((0 : Int), (0 : Int))))), .dat tI (checkProg isKey (a0.1, (a0.2.1, (a0.2.2.1, (a0.2.2.2.1, a0.2.2.2.2)))))], []⟩) (cond (((List.length a1 : Nat) : Int) != ((List.length a0.1 : Nat) : Int)) (some ⟨[.dat tPrgm (([] : List Item), ((0 : Int), ((0 : Int), ((0 : Int), (0 : Int))))), .dat tI (3 : Int)], []⟩) (f24h0 a1 a1 ((List.length a1 : Nat) : Int) (0 : Int) a0.1 a0.2.1 a0.2.2.1 a0.2.2.2.1 a0.2.2.2.2 (0 : Int) (0 : Int) (0 : Int) (0 : Int) a0.2.1 a0.2.2.1 a0.2.2.2.1 a0.2.2.2.2 ([] : List Item)))) := (I24.run_eq _).trans (by kernel_rfl)
theorem f24h0_eq (x0 : (List Bytes)) (x1 : (List Bytes)) (x2 : Int) (x3 : Int) (x4 : (List Item)) (x5 : Int) (x6 : Int) (x7 : Int) (x8 : Int) (x9 : Int) (x10 : Int) (x11 : Int) (x12 : Int) (x13 : Int) (x14 : Int) (x15 : Int) (x16 : Int) (x17 : (List Item)) : f24h0 x0 x1 x2 x3 x4 x5 x6 x7 x8 x9 x10 x11 x12 x13 x14 x15 x16 x17 = (cond (decide (x3 < x2)) (cond (decide ((0 : Int) ≤ x3)) (cond (decide (x3 < ((List.length x1 : Nat) : Int))) (cond (t50_ok (x4, (x5, (x6, (x7, x8)))) (List.getD x1 (Int.toNat x3) (Tc.dflt .str))) (cond (decide ((t50_0 (x4, (x5, (x6, (x7, x8)))) (List.getD x1 (Int.toNat x3) (Tc.dflt .str))) < (0 : Int))) (some ⟨[.dat tPrgm (([] : List Item), ((0 : Int), ((0 : Int), ((0 : Int), (0 : Int))))), .dat tI (8 : Int)], []⟩) (cond (decide ((0 : Int) ≤ (0 : Int))) (cond (decide ((0 : Int) ≤ x3)) (cond (decide (x3 ≤ ((List.length x0 : Nat) : Int))) (cond (decide (List.length (List.drop (Int.toNat (0 : Int)) (List.take (Int.toNat x3) x0)) ≤ 1000)) (cond (hasS (List.drop (Int.toNat (0 : Int)) (List.take (Int.toNat x3) x0)) (List.getD x1 (Int.toNat x3) (Tc.dflt .str))) (some ⟨[.dat tPrgm (([] : List Item), ((0 : Int), ((0 : Int), ((0 : Int), (0 : Int))))), .dat tI (6 : Int)], []⟩) (cond (decide ((0 : Int) ≤ (t50_0 (x4, (x5, (x6, (x7, x8)))) (List.getD x1 (Int.toNat x3) (Tc.dflt .str))))) (cond (decide ((t50_0 (x4, (x5, (x6, (x7, x8)))) (List.getD x1 (Int.toNat x3) (Tc.dflt .str))) < ((List.length x4 : Nat) : Int))) (cond (t51_ok (List.getD x4 (Int.toNat (t50_0 (x4, (x5, (x6, (x7, x8)))) (List.getD x1 (Int.toNat x3) (Tc.dflt .str)))) (Tc.dflt tItem))) (cond (decide (List.length ([(t51_0 (List.getD x4 (Int.toNat (t50_0 (x4, (x5, (x6, (x7, x8)))) (List.getD x1 (Int.toNat x3) (Tc.dflt .str)))) (Tc.dflt tItem)))] : List Item) * 64 ≤ 140737488355328)) (f24h0x1 x0 x1 x2 (wrap .i64 (x3 + (1 : Int))) x4 x5 x6 x7 x8 x9 x10 x11 x12 x13 x14 x15 x16 x17 ([(t51_0 (List.getD x4 (Int.toNat (t50_0 (x4, (x5, (x6, (x7, x8)))) (List.getD x1 (Int.toNat x3) (Tc.dflt .str)))) (Tc.dflt tItem)))] : List Item)) none) none) none) none)) none) none) none) none)) none) none) none) (some ⟨[.dat tPrgm (([] : List Item), (x13, (x14, (x15, x16)))), .dat tI (0 : Int)], []⟩)) := hdEq (by kernel_rfl)
theorem f24h0x1_eq (x0 : (List Bytes)) (x1 : (List Bytes)) (x2 : Int) (x3 : Int) (x4 : (List Item)) (x5 : Int) (x6 : Int) (x7 : Int) (x8 : Int) (x9 : Int) (x10 : Int) (x11 : Int) (x12 : Int) (x13 : Int) (x14 : Int) (x15 : Int) (x16 : Int) (x17 : (List Item)) (x18 : (List Item)) : f24h0x1 x0 x1 x2 x3 x4 x5 x6 x7 x8 x9 x10 x11 x12 x13 x14 x15 x16 x17 x18 = (cond (decide (x3 < x2)) (cond (decide ((0 : Int) ≤ x3)) (cond (decide (x3 < ((List.length x1 : Nat) : Int))) (cond (t50_ok (x4, (x5, (x6, (x7, x8)))) (List.getD x1 (Int.toNat x3) (Tc.dflt .str))) (cond (decide ((t50_0 (x4, (x5, (x6, (x7, x8)))) (List.getD x1 (Int.toNat x3) (Tc.dflt .str))) < (0 : Int))) (some ⟨[.dat tPrgm (([] : List Item), ((0 : Int), ((0 : Int), ((0 : Int), (0 : Int))))), .dat tI (8 : Int)], []⟩) (cond (decide ((0 : Int) ≤ (0 : Int))) (cond (decide ((0 : Int) ≤ x3)) (cond (decide (x3 ≤ ((List.length x0 : Nat) : Int))) (cond (decide (List.length (List.drop (Int.toNat (0 : Int)) (List.take (Int.toNat x3) x0)) ≤ 1000)) (cond (hasS (List.drop (Int.toNat (0 : Int)) (List.take (Int.toNat x3) x0)) (List.getD x1 (Int.toNat x3) (Tc.dflt .str))) (some ⟨[.dat tPrgm (([] : List Item), ((0 : Int), ((0 : Int), ((0 : Int), (0 : Int))))), .dat tI (6 : Int)], []⟩) (cond (decide ((0 : Int) ≤ (t50_0 (x4, (x5, (x6, (x7, x8)))) (List.getD x1 (Int.toNat x3) (Tc.dflt .str))))) (cond (decide ((t50_0 (x4, (x5, (x6, (x7, x8)))) (List.getD x1 (Int.toNat x3) (Tc.dflt .str))) < ((List.length x4 : Nat) : Int))) (cond (t51_ok (List.getD x4 (Int.toNat (t50_0 (x4, (x5, (x6, (x7, x8)))) (List.getD x1 (Int.toNat x3) (Tc.dflt .str)))) (Tc.dflt tItem))) (cond (decide ((List.length x18 + List.length ([(t51_0 (List.getD x4 (Int.toNat (t50_0 (x4, (x5, (x6, (x7, x8)))) (List.getD x1 (Int.toNat x3) (Tc.dflt .str)))) (Tc.dflt tItem)))] : List Item)) * 64 ≤ 140737488355328)) (f24h0x1 x0 x1 x2 (wrap .i64 (x3 + (1 : Int))) x4 x5 x6 x7 x8 x9 x10 x11 x12 x13 x14 x15 x16 x17 (x18 ++ ([(t51_0 (List.getD x4 (Int.toNat (t50_0 (x4, (x5, (x6, (x7, x8)))) (List.getD x1 (Int.toNat x3) (Tc.dflt .str)))) (Tc.dflt tItem)))] : List Item))) none) none) none) none)) none) none) none) none)) none) none) none) (some ⟨[.dat tPrgm (x18, (x13, (x14, (x15, x16)))), .dat tI (0 : Int)], []⟩)) := hdEq (by kernel_rfl)
noncomputable def f25h0 (x0 : Int) (x1 : Int) (x2 : Int) (x3 : (List Int)) (x4 : Int) (x5 : (List Int)) : Option Fr := I25.hd 0 (mkF 43 [(0, .ptr 0 0), (1, .dat tI x0), (5, .slc 501), (9, .dat tI x1), (10, .dat tI x2)] [(0, .box [.dat (.slice tI) x3, .dat tI x4]), (501, .arr tI x5)])
noncomputable def f25h2 (x0 : Int) (x1 : (List Int)) (x2 : Int) (x3 : (List Int)) : Option Fr := I25.hd 2 (mkF 43 [(0, .ptr 0 0), (5, .slc 501), (7, .dat tI x0)] [(0, .box [.dat (.slice tI) x1, .dat tI x2]), (501, .arr tI x3)])
theorem f25_run (a0 : Int) (L : (List Int)) (at_ : Int) : I25.run ⟨[.ptr 0 0, .dat tI a0], [(0, .box [.dat (.slice tI) L, .dat tI at_])]⟩ = (f25h0 a0 a0 (0 : Int) L at_ ([] : List Int)) := (I25.run_eq _).trans (by kernel_rfl)
theorem f25h0_eq (x0 : Int) (x1 : Int) (x2 : Int) (x3 : (List Int)) (x4 : Int) (x5 : (List Int)) : f25h0 x0 x1 x2 x3 x4 x5 = (cond (decide (x2 < x1)) (cond (decide ((List.length x5 + List.length [x2]) * 8 ≤ 140737488355328)) (f25h0 x0 x1 (wrap .i64 (x2 + (1 : Int))) x3 x4 (x5 ++ [x2])) none) (f25h2 (wrap .i64 (x0 - (1 : Int))) x3 x4 x5)) := hdEq (by kernel_rfl)
theorem f25h2_eq (x0 : Int) (x1 : (List Int)) (x2 : Int) (x3 : (List Int)) : f25h2 x0 x1 x2 x3 = (cond (decide (x0 > (0 : Int))) (cond (atOk 1 x2) (cond (decide ((0 : Int) ≤ (next x1 x2 (wrap .i64 (x0 + (1 : Int)))))) (cond (decide ((next x1 x2 (wrap .i64 (x0 + (1 : Int)))) < ((List.length x3 : Nat) : Int))) (cond (decide ((Int.toNat (next x1 x2 (wrap .i64 (x0 + (1 : Int))))) < List.length x3)) (cond (decide ((0 : Int) ≤ x0)) (cond (decide (x0 < ((List.length x3 : Nat) : Int))) (cond (decide ((Int.toNat x0) < List.length x3)) (cond (decide ((0 : Int) ≤ x0)) (cond (decide (x0 < ((List.length x3 : Nat) : Int))) (cond (decide ((Int.toNat x0) < List.length x3)) (cond (decide ((0 : Int) ≤ (next x1 x2 (wrap .i64 (x0 + (1 : Int)))))) (cond (decide ((next x1 x2 (wrap .i64 (x0 + (1 : Int)))) < ((List.length (List.set x3 (Int.toNat x0) (List.getD x3 (Int.toNat (next x1 x2 (wrap .i64 (x0 + (1 : Int))))) (Tc.dflt tI))) : Nat) : Int))) (cond (decide ((Int.toNat (next x1 x2 (wrap .i64 (x0 + (1 : Int))))) < List.length (List.set x3 (Int.toNat x0) (List.getD x3 (Int.toNat (next x1 x2 (wrap .i64 (x0 + (1 : Int))))) (Tc.dflt tI))))) (f25h2 (wrap .i64 (x0 - (1 : Int))) (x1) (nextAt x2) (List.set (List.set x3 (Int.toNat x0) (List.getD x3 (Int.toNat (next x1 x2 (wrap .i64 (x0 + (1 : Int))))) (Tc.dflt tI))) (Int.toNat (next x1 x2 (wrap .i64 (x0 + (1 : Int))))) (List.getD x3 (Int.toNat x0) (Tc.dflt tI)))) none) none) none) none) none) none) none) none) none) none) none) none) none) (some ⟨[.dat (.slice tI) x3], [(0, .box [.dat (.slice tI) x1, .dat tI x2])]⟩)) := hdEq (by kernel_rfl)
noncomputable def f6h0 (x0 : Int) (x1 : Int) (x2 : Int) (x3 : Int) (x4 : Int) (x5 : (List Int)) (x6 : Int) (x7 : Int) (x8 : Int) (x9 : Int) (x10 : Int) (x11 : Int) (x12 : (List Item)) (x13 : Int) (x14 : Int) (x15 : Int) (x16 : Int) (x17 : (List Bytes)) (x18 : (List Item)) : Option Fr := I6.hd 0 (mkF 102 [(4, .ptr 500 0), (6, .dat tI x0), (7, .dat tI x1), (8, .ptr 501 0), (9, .dat tI x2), (10, .dat tI x3), (11, .dat tI x4), (12, .slc 502), (45, .dat (.slice tI) x5), (46, .dat tI x6), (47, .dat tI x7)] [(500, .box [.slc 503, .dat tI x8, .dat tI x9, .dat tI x10, .dat tI x11]), (501, .box [.dat (.slice tItem) x12, .dat tI x13, .dat tI x14, .dat tI x15, .dat tI x16]), (502, .arr .str x17), (503, .frz tItem x18)])
theorem f6_run (a0 : (List Int)) : I6.run ⟨[.dat (.slice tI) a0], []⟩ = (cond (atOk 1000 (0 : Int) && decide (0 ≤ (5 : Int)) && decide ((5 : Int) ≤ 5)) (cond (decide (List.length (((rightP a0 (0 : Int) (5 : Int)).2.1), (((rightP a0 (0 : Int) (5 : Int)).2.2.1), (((rightP a0 (0 : Int) (5 : Int)).2.2.2.1), (((rightP a0 (0 : Int) (5 : Int)).2.2.2.2.1), ((rightP a0 (0 : Int) (5 : Int)).2.2.2.2.2))))).1 ≤ 5)) (cond (decide (List.length ((ordR (((rightP a0 (0 : Int) (5 : Int)).2.1), (((rightP a0 (0 : Int) (5 : Int)).2.2.1), (((rightP a0 (0 : Int) (5 : Int)).2.2.2.1), (((rightP a0 (0 : Int) (5 : Int)).2.2.2.2.1), ((rightP a0 (0 : Int) (5 : Int)).2.2.2.2.2)))))).1) ≤ 1000)) (cond (atOk 100 ((rightP a0 (0 : Int) (5 : Int)).1) && decide (0 ≤ ((List.length ((rightP a0 (0 : Int) (5 : Int)).2.1) : Nat) : Int)) && decide (((List.length ((rightP a0 (0 : Int) (5 : Int)).2.1) : Nat) : Int) ≤ 5)) (f6h0 ((ordR (((rightP a0 (0 : Int) (5 : Int)).2.1), (((rightP a0 (0 : Int) (5 : Int)).2.2.1), (((rightP a0 (0 : Int) (5 : Int)).2.2.2.1), (((rightP a0 (0 : Int) (5 : Int)).2.2.2.2.1), ((rightP a0 (0 : Int) (5 : Int)).2.2.2.2.2)))))).2.1) ((ordR (((rightP a0 (0 : Int) (5 : Int)).2.1), (((rightP a0 (0 : Int) (5 : Int)).2.2.1), (((rightP a0 (0 : Int) (5 : Int)).2.2.2.1), (((rightP a0 (0 : Int) (5 : Int)).2.2.2.2.1), ((rightP a0 (0 : Int) (5 : Int)).2.2.2.2.2)))))).2.2) ((movP (((rightP a0 (0 : Int) (5 : Int)).2.1), (((rightP a0 (0 : Int) (5 : Int)).2.2.1), (((rightP a0 (0 : Int) (5 : Int)).2.2.2.1), (((rightP a0 (0 : Int) (5 : Int)).2.2.2.2.1), ((rightP a0 (0 : Int) (5 : Int)).2.2.2.2.2))))) ((ordR (((rightP a0 (0 : Int) (5 : Int)).2.1), (((rightP a0 (0 : Int) (5 : Int)).2.2.1), (((rightP a0 (0 : Int) (5 : Int)).2.2.2.1), (((rightP a0 (0 : Int) (5 : Int)).2.2.2.2.1), ((rightP a0 (0 : Int) (5 : Int)).2.2.2.2.2)))))).1)).2) ((longP (((movP (((rightP a0 (0 : Int) (5 : Int)).2.1), (((rightP a0 (0 : Int) (5 : Int)).2.2.1), (((rightP a0 (0 : Int) (5 : Int)).2.2.2.1), (((rightP a0 (0 : Int) (5 : Int)).2.2.2.2.1), ((rightP a0 (0 : Int) (5 : Int)).2.2.2.2.2))))) ((ordR (((rightP a0 (0 : Int) (5 : Int)).2.1), (((rightP a0 (0 : Int) (5 : Int)).2.2.1), (((rightP a0 (0 : Int) (5 : Int)).2.2.2.1), (((rightP a0 (0 : Int) (5 : Int)).2.2.2.2.1), ((rightP a0 (0 : Int) (5 : Int)).2.2.2.2.2)))))).1)).1).1, (((movP (((rightP a0 (0 : Int) (5 : Int)).2.1), (((rightP a0 (0 : Int) (5 : Int)).2.2.1), (((rightP a0 (0 : Int) (5 : Int)).2.2.2.1), (((rightP a0 (0 : Int) (5 : Int)).2.2.2.2.1), ((rightP a0 (0 : Int) (5 : Int)).2.2.2.2.2))))) ((ordR (((rightP a0 (0 : Int) (5 : Int)).2.1), (((rightP a0 (0 : Int) (5 : Int)).2.2.1), (((rightP a0 (0 : Int) (5 : Int)).2.2.2.1), (((rightP a0 (0 : Int) (5 : Int)).2.2.2.2.1), ((rightP a0 (0 : Int) (5 : Int)).2.2.2.2.2)))))).1)).1).2.1, (((movP (((rightP a0 (0 : Int) (5 : Int)).2.1), (((rightP a0 (0 : Int) (5 : Int)).2.2.1), (((rightP a0 (0 : Int) (5 : Int)).2.2.2.1), (((rightP a0 (0 : Int) (5 : Int)).2.2.2.2.1), ((rightP a0 (0 : Int) (5 : Int)).2.2.2.2.2))))) ((ordR (((rightP a0 (0 : Int) (5 : Int)).2.1), (((rightP a0 (0 : Int) (5 : Int)).2.2.1), (((rightP a0 (0 : Int) (5 : Int)).2.2.2.1), (((rightP a0 (0 : Int) (5 : Int)).2.2.2.2.1), ((rightP a0 (0 : Int) (5 : Int)).2.2.2.2.2)))))).1)).1).2.2.1, (((movP (((rightP a0 (0 : Int) (5 : Int)).2.1), (((rightP a0 (0 : Int) (5 : Int)).2.2.1), (((rightP a0 (0 : Int) (5 : Int)).2.2.2.1), (((rightP a0 (0 : Int) (5 : Int)).2.2.2.2.1), ((rightP a0 (0 : Int) (5 : Int)).2.2.2.2.2))))) ((ordR (((rightP a0 (0 : Int) (5 : Int)).2.1), (((rightP a0 (0 : Int) (5 : Int)).2.2.1), (((rightP a0 (0 : Int) (5 : Int)).2.2.2.1), (((rightP a0 (0 : Int) (5 : Int)).2.2.2.2.1), ((rightP a0 (0 : Int) (5 : Int)).2.2.2.2.2)))))).1)).1).2.2.2.1, ((movP (((rightP a0 (0 : Int) (5 : Int)).2.1), (((rightP a0 (0 : Int) (5 : Int)).2.2.1), (((rightP a0 (0 : Int) (5 : Int)).2.2.2.1), (((rightP a0 (0 : Int) (5 : Int)).2.2.2.2.1), ((rightP a0 (0 : Int) (5 : Int)).2.2.2.2.2))))) ((ordR (((rightP a0 (0 : Int) (5 : Int)).2.1), (((rightP a0 (0 : Int) (5 : Int)).2.2.1), (((rightP a0 (0 : Int) (5 : Int)).2.2.2.1), (((rightP a0 (0 : Int) (5 : Int)).2.2.2.2.1), ((rightP a0 (0 : Int) (5 : Int)).2.2.2.2.2)))))).1)).1).2.2.2.2))))).1) ((longP (((movP (((rightP a0 (0 : Int) (5 : Int)).2.1), (((rightP a0 (0 : Int) (5 : Int)).2.2.1), (((rightP a0 (0 : Int) (5 : Int)).2.2.2.1), (((rightP a0 (0 : Int) (5 : Int)).2.2.2.2.1), ((rightP a0 (0 : Int) (5 : Int)).2.2.2.2.2))))) ((ordR (((rightP a0 (0 : Int) (5 : Int)).2.1), (((rightP a0 (0 : Int) (5 : Int)).2.2.1), (((rightP a0 (0 : Int) (5 : Int)).2.2.2.1), (((rightP a0 (0 : Int) (5 : Int)).2.2.2.2.1), ((rightP a0 (0 : Int) (5 : Int)).2.2.2.2.2)))))).1)).1).1, (((movP (((rightP a0 (0 : Int) (5 : Int)).2.1), (((rightP a0 (0 : Int) (5 : Int)).2.2.1), (((rightP a0 (0 : Int) (5 : Int)).2.2.2.1), (((rightP a0 (0 : Int) (5 : Int)).2.2.2.2.1), ((rightP a0 (0 : Int) (5 : Int)).2.2.2.2.2))))) ((ordR (((rightP a0 (0 : Int) (5 : Int)).2.1), (((rightP a0 (0 : Int) (5 : Int)).2.2.1), (((rightP a0 (0 : Int) (5 : Int)).2.2.2.1), (((rightP a0 (0 : Int) (5 : Int)).2.2.2.2.1), ((rightP a0 (0 : Int) (5 : Int)).2.2.2.2.2)))))).1)).1).2.1, (((movP (((rightP a0 (0 : Int) (5 : Int)).2.1), (((rightP a0 (0 : Int) (5 : Int)).2.2.1), (((rightP a0 (0 : Int) (5 : Int)).2.2.2.1), (((rightP a0 (0 : Int) (5 : Int)).2.2.2.2.1), ((rightP a0 (0 : Int) (5 : Int)).2.2.2.2.2))))) ((ordR (((rightP a0 (0 : Int) (5 : Int)).2.1), (((rightP a0 (0 : Int) (5 : Int)).2.2.1), (((rightP a0 (0 : Int) (5 : Int)).2.2.2.1), (((rightP a0 (0 : Int) (5 : Int)).2.2.2.2.1), ((rightP a0 (0 : Int) (5 : Int)).2.2.2.2.2)))))).1)).1).2.2.1, (((movP (((rightP a0 (0 : Int) (5 : Int)).2.1), (((rightP a0 (0 : Int) (5 : Int)).2.2.1), (((rightP a0 (0 : Int) (5 : Int)).2.2.2.1), (((rightP a0 (0 : Int) (5 : Int)).2.2.2.2.1), ((rightP a0 (0 : Int) (5 : Int)).2.2.2.2.2))))) ((ordR (((rightP a0 (0 : Int) (5 : Int)).2.1), (((rightP a0 (0 : Int) (5 : Int)).2.2.1), (((rightP a0 (0 : Int) (5 : Int)).2.2.2.1), (((rightP a0 (0 : Int) (5 : Int)).2.2.2.2.1), ((rightP a0 (0 : Int) (5 : Int)).2.2.2.2.2)))))).1)).1).2.2.2.1, ((movP (((rightP a0 (0 : Int) (5 : Int)).2.1), (((rightP a0 (0 : Int) (5 : Int)).2.2.1), (((rightP a0 (0 : Int) (5 : Int)).2.2.2.1), (((rightP a0 (0 : Int) (5 : Int)).2.2.2.2.1), ((rightP a0 (0 : Int) (5 : Int)).2.2.2.2.2))))) ((ordR (((rightP a0 (0 : Int) (5 : Int)).2.1), (((rightP a0 (0 : Int) (5 : Int)).2.2.1), (((rightP a0 (0 : Int) (5 : Int)).2.2.2.1), (((rightP a0 (0 : Int) (5 : Int)).2.2.2.2.1), ((rightP a0 (0 : Int) (5 : Int)).2.2.2.2.2)))))).1)).1).2.2.2.2))))).2) ((aOrder (a0) ((rightP a0 (0 : Int) (5 : Int)).1) ((List.length ((rightP a0 (0 : Int) (5 : Int)).2.1) : Nat) : Int)).2) ((List.length ((aOrder (a0) ((rightP a0 (0 : Int) (5 : Int)).1) ((List.length ((rightP a0 (0 : Int) (5 : Int)).2.1) : Nat) : Int)).2) : Nat) : Int) (0 : Int) ((rightP a0 (0 : Int) (5 : Int)).2.2.1) ((rightP a0 (0 : Int) (5 : Int)).2.2.2.1) ((rightP a0 (0 : Int) (5 : Int)).2.2.2.2.1) ((rightP a0 (0 : Int) (5 : Int)).2.2.2.2.2) ((movP (((rightP a0 (0 : Int) (5 : Int)).2.1), (((rightP a0 (0 : Int) (5 : Int)).2.2.1), (((rightP a0 (0 : Int) (5 : Int)).2.2.2.1), (((rightP a0 (0 : Int) (5 : Int)).2.2.2.2.1), ((rightP a0 (0 : Int) (5 : Int)).2.2.2.2.2))))) ((ordR (((rightP a0 (0 : Int) (5 : Int)).2.1), (((rightP a0 (0 : Int) (5 : Int)).2.2.1), (((rightP a0 (0 : Int) (5 : Int)).2.2.2.1), (((rightP a0 (0 : Int) (5 : Int)).2.2.2.2.1), ((rightP a0 (0 : Int) (5 : Int)).2.2.2.2.2)))))).1)).1).1 ((movP (((rightP a0 (0 : Int) (5 : Int)).2.1), (((rightP a0 (0 : Int) (5 : Int)).2.2.1), (((rightP a0 (0 : Int) (5 : Int)).2.2.2.1), (((rightP a0 (0 : Int) (5 : Int)).2.2.2.2.1), ((rightP a0 (0 : Int) (5 : Int)).2.2.2.2.2))))) ((ordR (((rightP a0 (0 : Int) (5 : Int)).2.1), (((rightP a0 (0 : Int) (5 : Int)).2.2.1), (((rightP a0 (0 : Int) (5 : Int)).2.2.2.1), (((rightP a0 (0 : Int) (5 : Int)).2.2.2.2.1), ((rightP a0 (0 : Int) (5 : Int)).2.2.2.2.2)))))).1)).1).2.1 ((movP (((rightP a0 (0 : Int) (5 : Int)).2.1), (((rightP a0 (0 : Int) (5 : Int)).2.2.1), (((rightP a0 (0 : Int) (5 : Int)).2.2.2.1), (((rightP a0 (0 : Int) (5 : Int)).2.2.2.2.1), ((rightP a0 (0 : Int) (5 : Int)).2.2.2.2.2))))) ((ordR (((rightP a0 (0 : Int) (5 : Int)).2.1), (((rightP a0 (0 : Int) (5 : Int)).2.2.1), (((rightP a0 (0 : Int) (5 : Int)).2.2.2.1), (((rightP a0 (0 : Int) (5 : Int)).2.2.2.2.1), ((rightP a0 (0 : Int) (5 : Int)).2.2.2.2.2)))))).1)).1).2.2.1 ((movP (((rightP a0 (0 : Int) (5 : Int)).2.1), (((rightP a0 (0 : Int) (5 : Int)).2.2.1), (((rightP a0 (0 : Int) (5 : Int)).2.2.2.1), (((rightP a0 (0 : Int) (5 : Int)).2.2.2.2.1), ((rightP a0 (0 : Int) (5 : Int)).2.2.2.2.2))))) ((ordR (((rightP a0 (0 : Int) (5 : Int)).2.1), (((rightP a0 (0 : Int) (5 : Int)).2.2.1), (((rightP a0 (0 : Int) (5 : Int)).2.2.2.1), (((rightP a0 (0 : Int) (5 : Int)).2.2.2.2.1), ((rightP a0 (0 : Int) (5 : Int)).2.2.2.2.2)))))).1)).1).2.2.2.1 ((movP (((rightP a0 (0 : Int) (5 : Int)).2.1), (((rightP a0 (0 : Int) (5 : Int)).2.2.1), (((rightP a0 (0 : Int) (5 : Int)).2.2.2.1), (((rightP a0 (0 : Int) (5 : Int)).2.2.2.2.1), ((rightP a0 (0 : Int) (5 : Int)).2.2.2.2.2))))) ((ordR (((rightP a0 (0 : Int) (5 : Int)).2.1), (((rightP a0 (0 : Int) (5 : Int)).2.2.1), (((rightP a0 (0 : Int) (5 : Int)).2.2.2.1), (((rightP a0 (0 : Int) (5 : Int)).2.2.2.2.1), ((rightP a0 (0 : Int) (5 : Int)).2.2.2.2.2)))))).1)).1).2.2.2.2 ([] : List Bytes) ((rightP a0 (0 : Int) (5 : Int)).2.1)) none) none) none) none) := (I6.run_eq _).trans (by kernel_rfl)
theorem f6h0_eq (x0 : Int) (x1 : Int) (x2 : Int) (x3 : Int) (x4 : Int) (x5 : (List Int)) (x6 : Int) (x7 : Int) (x8 : Int) (x9 : Int) (x10 : Int) (x11 : Int) (x12 : (List Item)) (x13 : Int) (x14 : Int) (x15 : Int) (x16 : Int) (x17 : (List Bytes)) (x18 : (List Item)) : f6h0 x0 x1 x2 x3 x4 x5 x6 x7 x8 x9 x10 x11 x12 x13 x14 x15 x16 x17 x18 = (cond (decide (x7 < x6)) (cond (decide ((0 : Int) ≤ x7)) (cond (decide (x7 < ((List.length x5 : Nat) : Int))) (cond (decide ((0 : Int) ≤ (List.getD x5 (Int.toNat x7) (Tc.dflt tI)))) (cond (decide ((List.getD x5 (Int.toNat x7) (Tc.dflt tI)) < ((List.length x18 : Nat) : Int))) (cond (decide ((List.length x17 + List.length ([(List.getD x18 (Int.toNat (List.getD x5 (Int.toNat x7) (Tc.dflt tI))) (Tc.dflt tItem)).1] : List Bytes)) * 16 ≤ 140737488355328)) (f6h0 x0 x1 x2 x3 x4 x5 x6 (wrap .i64 (x7 + (1 : Int))) x8 x9 x10 x11 x12 x13 x14 x15 x16 (x17 ++ ([(List.getD x18 (Int.toNat (List.getD x5 (Int.toNat x7) (Tc.dflt tI))) (Tc.dflt tItem)).1] : List Bytes)) x18) none) none) none) none) none) (cond (decide (List.length x17 ≤ 1000)) (cond (decide (List.length [x1, x2, x4, ((movP (x18, (x8, (x9, (x10, x11)))) x17).2), ((longP (((movP (x18, (x8, (x9, (x10, x11)))) x17).1).1, (((movP (x18, (x8, (x9, (x10, x11)))) x17).1).2.1, (((movP (x18, (x8, (x9, (x10, x11)))) x17).1).2.2.1, (((movP (x18, (x8, (x9, (x10, x11)))) x17).1).2.2.2.1, ((movP (x18, (x8, (x9, (x10, x11)))) x17).1).2.2.2.2))))).2)] ≤ 1000)) (cond ((firstE [x1, x2, x4, ((movP (x18, (x8, (x9, (x10, x11)))) x17).2), ((longP (((movP (x18, (x8, (x9, (x10, x11)))) x17).1).1, (((movP (x18, (x8, (x9, (x10, x11)))) x17).1).2.1, (((movP (x18, (x8, (x9, (x10, x11)))) x17).1).2.2.1, (((movP (x18, (x8, (x9, (x10, x11)))) x17).1).2.2.2.1, ((movP (x18, (x8, (x9, (x10, x11)))) x17).1).2.2.2.2))))).2)]) == (0 : Int)) (cond (((List.length x12 : Nat) : Int) == ((List.length x18 : Nat) : Int)) (cond (x3 == x0) (cond (decide (x0 ≤ ((longP (((movP (x18, (x8, (x9, (x10, x11)))) x17).1).1, (((movP (x18, (x8, (x9, (x10, x11)))) x17).1).2.1, (((movP (x18, (x8, (x9, (x10, x11)))) x17).1).2.2.1, (((movP (x18, (x8, (x9, (x10, x11)))) x17).1).2.2.2.1, ((movP (x18, (x8, (x9, (x10, x11)))) x17).1).2.2.2.2))))).1))) (some ⟨[.dat .bool true], []⟩) (some ⟨[.dat .bool false], []⟩)) (some ⟨[.dat .bool false], []⟩)) (some ⟨[.dat .bool false], []⟩)) (some ⟨[.dat .bool false], []⟩)) none) none)) := hdEq (by kernel_rfl)
end Go.Ev.X

set_option linter.unusedVariables false
set_option linter.unusedSimpArgs false
set_option maxRecDepth 100000
namespace Go.Ev.X
open Go Go.Ev Go.Proofs
theorem mo : Tryz.prog.follows .mixedOrders = true := by kernel_rfl
theorem e0 : EnvOk Tryz.prog En0 := env_nil (by kernel_rfl)
def R54 : Prop := ∀ (a0 : Int) (a1 : Int), (true) = true → I54.run ⟨[.dat tI a0, .dat tI a1], []⟩ = some ⟨[.dat tI (below a0 a1)], []⟩
theorem sd54 (hE : EnvOk Tryz.prog En0) (h : R54) : EnvOk Tryz.prog En54 := env_add hE (gen_sound I54 hE mo Tryz.func54 rfl rfl (fun x hx => h x.1 x.2.1 hx))
def R33 : Prop := ∀ (a0 : Int) (L : (List Int)) (at_ : Int), (atOk 1 at_) = true → I33.run ⟨[.ptr 0 0, .dat tI a0], [(0, .box [.dat (.slice tI) L, .dat tI at_])]⟩ = some ⟨[.dat tI (next L at_ a0)], [(0, .box [.dat (.slice tI) (L), .dat tI (nextAt at_)])]⟩
theorem sd33 (hE : EnvOk Tryz.prog En54) (h : R33) : EnvOk Tryz.prog En33 := env_add hE (gen_sound I33 hE mo Tryz.func33 rfl rfl (fun x hx => h x.1 x.2.1 x.2.2.1 hx))
def R30 : Prop := ∀ (a0 : (List Int)) (L : (List Int)) (at_ : Int), (atOk 1 at_ && decide (0 < List.length a0) && decide (List.length a0 ≤ 1000)) = true → I30.run ⟨[.ptr 0 0, .dat (.slice tI) a0], [(0, .box [.dat (.slice tI) L, .dat tI at_])]⟩ = some ⟨[.dat tI (pick L at_ a0)], [(0, .box [.dat (.slice tI) (L), .dat tI (nextAt at_)])]⟩
theorem sd30 (hE : EnvOk Tryz.prog En33) (h : R30) : EnvOk Tryz.prog En30 := env_add hE (gen_sound I30 hE mo Tryz.func30 rfl rfl (fun x hx => h x.1 x.2.1 x.2.2.1 hx))
def R31 : Prop := ∀ (a0 : Int) (L : (List Int)) (at_ : Int), (atOk 1 at_) = true → I31.run ⟨[.ptr 0 0, .dat tI a0], [(0, .box [.dat (.slice tI) L, .dat tI at_])]⟩ = some ⟨[.dat .bool (next L at_ a0 == 0)], [(0, .box [.dat (.slice tI) (L), .dat tI (nextAt at_)])]⟩
theorem sd31 (hE : EnvOk Tryz.prog En30) (h : R31) : EnvOk Tryz.prog En31 := env_add hE (gen_sound I31 hE mo Tryz.func31 rfl rfl (fun x hx => h x.1 x.2.1 x.2.2.1 hx))
def R32 : Prop := ∀ (a0 : (List Bytes)) (L : (List Int)) (at_ : Int), (atOk 1 at_ && decide (0 < List.length a0) && decide (List.length a0 ≤ 1000)) = true → I32.run ⟨[.ptr 0 0, .dat (.slice .str) a0], [(0, .box [.dat (.slice tI) L, .dat tI at_])]⟩ = some ⟨[.dat .str (some_ L at_ a0)], [(0, .box [.dat (.slice tI) (L), .dat tI (nextAt at_)])]⟩
theorem sd32 (hE : EnvOk Tryz.prog En31) (h : R32) : EnvOk Tryz.prog En32 := env_add hE (gen_sound I32 hE mo Tryz.func32 rfl rfl (fun x hx => h x.1 x.2.1 x.2.2.1 hx))
def R8 : Prop := ∀ (a0 : Int) (L : (List Int)) (at_ : Int), (atOk 1000 at_ && decide (0 ≤ a0) && decide (a0 ≤ 5)) = true → I8.run ⟨[.ptr 0 0, .dat tI a0], [(0, .box [.dat (.slice tI) L, .dat tI at_])]⟩ = some ⟨[.agg [.slc 2, .dat tI ((rightP L at_ a0).2.2.1), .dat tI ((rightP L at_ a0).2.2.2.1), .dat tI ((rightP L at_ a0).2.2.2.2.1), .dat tI ((rightP L at_ a0).2.2.2.2.2)]], [(0, .box [.dat (.slice tI) (L), .dat tI ((rightP L at_ a0).1)]), (2, .arr tItem ((rightP L at_ a0).2.1))]⟩
theorem sd8 (hE : EnvOk Tryz.prog En32) (h : R8) : EnvOk Tryz.prog En8 := env_add hE (gen_sound I8 hE mo Tryz.func8 rfl rfl (fun x hx => h x.1 x.2.1 x.2.2.1 hx))
def R10 : Prop := Sound Tryz.prog En0.gl 10 S10 ∧ Enters Tryz.prog 10
theorem sd10 (hE : EnvOk Tryz.prog En8) (h : R10) : EnvOk Tryz.prog En10 := env_add hE (h)
def R42 : Prop := ∀ (a0 : Int) (a1 : Int) (a2 : Int), (true) = true → I42.run ⟨[.dat tI a0, .dat tI a1, .dat tI a2], []⟩ = some ⟨[.dat .bool (outside a0 a1 a2)], []⟩
theorem sd42 (hE : EnvOk Tryz.prog En10) (h : R42) : EnvOk Tryz.prog En42 := env_add hE (gen_sound I42 hE mo Tryz.func42 rfl rfl (fun x hx => h x.1 x.2.1 x.2.2.1 hx))
def R80 : Prop := ∀ (a0 : Item) (k : Bytes) (pl : Bytes) (lg : Int) (ps : (List Bytes)), (true) = true → I80.run ⟨[.dat tItem a0, .ptr 0 0], [(0, .box [.dat .str k, .dat .str pl, .dat tI lg, .dat (.slice .str) ps])]⟩ = some ⟨[.dat .bool (t80_0 a0 k pl lg ps)], [(0, .box [.dat .str k, .dat .str pl, .dat tI lg, .dat (.slice .str) ps])]⟩
theorem sd80 (hE : EnvOk Tryz.prog En42) (h : R80) : EnvOk Tryz.prog En80 := env_add hE (gen_sound I80 hE mo Tryz.func80 rfl rfl (fun x hx => h x.1 x.2.1 x.2.2.1 x.2.2.2.1 x.2.2.2.2.1 hx))
theorem r80 : R80 := by
  intro a0 k pl lg ps _
  exact f80_run a0 k pl lg ps
def R44 : Prop := ∀ (a0 : (List Item)) (k : Bytes) (pl : Bytes) (lg : Int) (ps : (List Bytes)), (decide (List.length a0 ≤ 1000)) = true → I44.run ⟨[.dat (.slice tItem) a0, .clos 80 [.ptr 0 0]], [(0, .box [.dat .str k, .dat .str pl, .dat tI lg, .dat (.slice .str) ps])]⟩ = some ⟨[.dat tI (idxBy (fun o => t80_0 o k pl lg ps) a0 0)], [(0, .box [.dat .str (k), .dat .str (pl), .dat tI (lg), .dat (.slice .str) (ps)])]⟩
theorem sd44 (hE : EnvOk Tryz.prog En80) (h : R44) : EnvOk Tryz.prog En44 := env_add hE (gen_sound I44 hE mo Tryz.func44 rfl rfl (fun x hx => h x.1 x.2.1 x.2.2.1 x.2.2.2.1 x.2.2.2.2.1 hx))
def R79 : Prop := ∀ (a0 : (List Item)) (k : Bytes) (pl : Bytes) (lg : Int) (ps : (List Bytes)), (t79_ok a0 k pl lg ps) = true → I79.run ⟨[.dat (.slice tItem) a0, .clos 80 [.ptr 0 0]], [(0, .box [.dat .str k, .dat .str pl, .dat tI lg, .dat (.slice .str) ps])]⟩ = some ⟨[.dat .bool (t79_0 a0 k pl lg ps)], [(0, .box [.dat .str k, .dat .str pl, .dat tI lg, .dat (.slice .str) ps])]⟩
theorem sd79 (hE : EnvOk Tryz.prog En44) (h : R79) : EnvOk Tryz.prog En79 := env_add hE (gen_sound I79 hE mo Tryz.func79 rfl rfl (fun x hx => h x.1 x.2.1 x.2.2.1 x.2.2.2.1 x.2.2.2.2.1 hx))
theorem rt79 (a0 : (List Item)) (k : Bytes) (pl : Bytes) (lg : Int) (ps : (List Bytes)) : I79.run ⟨[.dat (.slice tItem) a0, .clos 80 [.ptr 0 0]], [(0, .box [.dat .str k, .dat .str pl, .dat tI lg, .dat (.slice .str) ps])]⟩ = (t79 a0 k pl lg ps).map (fun r => ⟨[.dat .bool r], [(0, .box [.dat .str k, .dat .str pl, .dat tI lg, .dat (.slice .str) ps])]⟩) := by
  rw [f79_run a0 k pl lg ps]
  unfold t79
  simp only [omap_cond, Option.map_some, Option.map_none]
theorem r79 : R79 := by
  intro a0 k pl lg ps h
  obtain ⟨r, hr⟩ := Option.isSome_iff_exists.1 h
  rw [rt79, hr]
  unfold t79_0
  rw [hr]; rfl
def R103 : Prop := Sound Tryz.prog En0.gl 103 S103 ∧ Enters Tryz.prog 103
theorem sd103 (hE : EnvOk Tryz.prog En79) (h : R103) : EnvOk Tryz.prog En103 := env_add hE (h)
def R104 : Prop := Sound Tryz.prog En0.gl 104 S104 ∧ Enters Tryz.prog 104
theorem sd104 (hE : EnvOk Tryz.prog En103) (h : R104) : EnvOk Tryz.prog En104 := env_add hE (h)
def R78 : Prop := ∀ (a0 : Bytes), (true) = true → I78.run ⟨[.dat .str a0], []⟩ = some ⟨[.dat .bool (isKey a0)], []⟩
theorem sd78 (hE : EnvOk Tryz.prog En104) (h : R78) : EnvOk Tryz.prog En78 := env_add hE (gen_sound I78 hE mo Tryz.func78 rfl rfl (fun x hx => h x.1 hx))
def R81 : Prop := ∀ (a0 : (List Bytes)), (true) = true → I81.run ⟨[.dat (.slice .str) a0], []⟩ = some ⟨[.dat tI (partsF isKey a0)], []⟩
theorem sd81 (hE : EnvOk Tryz.prog En78) (h : R81) : EnvOk Tryz.prog En81 := env_add hE (gen_sound I81 hE mo Tryz.func81 rfl rfl (fun x hx => h x.1 hx))
def R55 : Prop := ∀ (a0 : (List Item)), (true) = true → I55.run ⟨[.dat (.slice tItem) a0], []⟩ = some ⟨[.dat tI (checkItems isKey a0)], []⟩
theorem sd55 (hE : EnvOk Tryz.prog En81) (h : R55) : EnvOk Tryz.prog En55 := env_add hE (gen_sound I55 hE mo Tryz.func55 rfl rfl (fun x hx => h x.1 hx))
def R34 : Prop := ∀ (a0 : Prgm), (true) = true → I34.run ⟨[.dat tPrgm a0], []⟩ = some ⟨[.dat tI (checkProg isKey a0)], []⟩
theorem sd34 (hE : EnvOk Tryz.prog En55) (h : R34) : EnvOk Tryz.prog En34 := env_add hE (gen_sound I34 hE mo Tryz.func34 rfl rfl (fun x hx => h x.1 hx))
def R98 : Prop := ∀ (a0 : Prgm) (a1 : Item) (a2 : Item), (true) = true → I98.run ⟨[.dat tPrgm a0, .dat tItem a1, .dat tItem a2], []⟩ = some ⟨[.dat tI (t98_0 a0 a1 a2)], []⟩
theorem sd98 (hE : EnvOk Tryz.prog En34) (h : R98) : EnvOk Tryz.prog En98 := env_add hE (gen_sound I98 hE mo Tryz.func98 rfl rfl (fun x hx => h x.1 x.2.1 x.2.2.1 hx))
theorem r98 : R98 := by
  intro a0 a1 a2 _
  rw [f98_run a0 a1 a2]
  unfold t98_0 t98
  cases h2 : (!(a1.2.1 == a2.2.1)) with
  | true =>
    simp only [cond_true]
    all_goals rfl
  | false =>
    simp only [cond_false]
    all_goals rfl
def R72 : Prop := ∀ (a0 : Prgm) (a1 : Int), (decide (0 ≤ a1) && decide (a1 + 1 < (List.length a0.1 : Int)) && decide (List.length a0.1 ≤ 1000)) = true → I72.run ⟨[.dat tPrgm a0, .dat tI a1], []⟩ = some ⟨[.dat tI (behindF a0 a1)], []⟩
theorem sd72 (hE : EnvOk Tryz.prog En98) (h : R72) : EnvOk Tryz.prog En72 := env_add hE (gen_sound I72 hE mo Tryz.func72 rfl rfl (fun x hx => h x.1 x.2.1 hx))
def R40 : Prop := ∀ (a0 : Prgm), (decide (List.length a0.1 ≤ 1000)) = true → I40.run ⟨[.dat tPrgm a0], []⟩ = some ⟨[.slc 0, .dat tI ((begGo a0 0 0 a0.1).2)], [(0, .arr tI ((begGo a0 0 0 a0.1).1))]⟩
theorem sd40 (hE : EnvOk Tryz.prog En72) (h : R40) : EnvOk Tryz.prog En40 := env_add hE (gen_sound I40 hE mo Tryz.func40 rfl rfl (fun x hx => h x.1 hx))
def R11 : Prop := ∀ (a0 : Prgm), (true) = true → I11.run ⟨[.dat tPrgm a0], []⟩ = some ⟨[.dat tI ((longP a0).1), .dat tI ((longP a0).2)], []⟩
theorem sd11 (hE : EnvOk Tryz.prog En40) (h : R11) : EnvOk Tryz.prog En11 := env_add hE (gen_sound I11 hE mo Tryz.func11 rfl rfl (fun x hx => h x.1 hx))
def R12 : Prop := ∀ (a0 : (List Int)), (decide (List.length a0 ≤ 1000)) = true → I12.run ⟨[.dat (.slice tI) a0], []⟩ = some ⟨[.dat tI (firstE a0)], []⟩
theorem sd12 (hE : EnvOk Tryz.prog En11) (h : R12) : EnvOk Tryz.prog En12 := env_add hE (gen_sound I12 hE mo Tryz.func12 rfl rfl (fun x hx => h x.1 hx))
def R45 : Prop := ∀ (a0 : (List Bytes)) (a1 : Bytes), (decide (List.length a0 ≤ 1000)) = true → I45.run ⟨[.dat (.slice .str) a0, .dat .str a1], []⟩ = some ⟨[.dat tI (idxS a1 a0 0)], []⟩
theorem sd45 (hE : EnvOk Tryz.prog En12) (h : R45) : EnvOk Tryz.prog En45 := env_add hE (gen_sound I45 hE mo Tryz.func45 rfl rfl (fun x hx => h x.1 x.2.1 hx))
def R21 : Prop := ∀ (a0 : (List Bytes)) (a1 : Bytes), (decide (List.length a0 ≤ 1000)) = true → I21.run ⟨[.dat (.slice .str) a0, .dat .str a1], []⟩ = some ⟨[.dat .bool (hasS a0 a1)], []⟩
theorem sd21 (hE : EnvOk Tryz.prog En45) (h : R21) : EnvOk Tryz.prog En21 := env_add hE (gen_sound I21 hE mo Tryz.func21 rfl rfl (fun x hx => h x.1 x.2.1 hx))
def R101 : Prop := ∀ (a0 : Bytes) (bk : Bytes) (bp : Bytes) (bl : Int) (bps : (List Bytes)), (t101_ok a0 bk bp bl bps) = true → I101.run ⟨[.dat .str a0, .ptr 0 0], [(0, .box [.dat .str bk, .dat .str bp, .dat tI bl, .dat (.slice .str) bps])]⟩ = some ⟨[.dat .bool (t101_0 a0 bk bp bl bps)], [(0, .box [.dat .str bk, .dat .str bp, .dat tI bl, .dat (.slice .str) bps])]⟩
theorem sd101 (hE : EnvOk Tryz.prog En21) (h : R101) : EnvOk Tryz.prog En101 := env_add hE (gen_sound I101 hE mo Tryz.func101 rfl rfl (fun x hx => h x.1 x.2.1 x.2.2.1 x.2.2.2.1 x.2.2.2.2.1 hx))
theorem rt101 (a0 : Bytes) (bk : Bytes) (bp : Bytes) (bl : Int) (bps : (List Bytes)) : I101.run ⟨[.dat .str a0, .ptr 0 0], [(0, .box [.dat .str bk, .dat .str bp, .dat tI bl, .dat (.slice .str) bps])]⟩ = (t101 a0 bk bp bl bps).map (fun r => ⟨[.dat .bool r], [(0, .box [.dat .str bk, .dat .str bp, .dat tI bl, .dat (.slice .str) bps])]⟩) := by
  rw [f101_run a0 bk bp bl bps]
  unfold t101
  simp only [omap_cond, Option.map_some, Option.map_none]
theorem r101 : R101 := by
  intro a0 bk bp bl bps h
  obtain ⟨r, hr⟩ := Option.isSome_iff_exists.1 h
  rw [rt101, hr]
  unfold t101_0
  rw [hr]; rfl
def R118 : Prop := ∀ (a0 : (List Bytes)) (bk : Bytes) (bp : Bytes) (bl : Int) (bps : (List Bytes)), (decide (List.length a0 ≤ 1000) && decide (List.length bps ≤ 1000)) = true → I118.run ⟨[.dat (.slice .str) a0, .clos 101 [.ptr 0 0]], [(0, .box [.dat .str bk, .dat .str bp, .dat tI bl, .dat (.slice .str) bps])]⟩ = some ⟨[.dat tI (idxBy (fun o => t101_0 o bk bp bl bps) a0 0)], [(0, .box [.dat .str (bk), .dat .str (bp), .dat tI (bl), .dat (.slice .str) (bps)])]⟩
theorem sd118 (hE : EnvOk Tryz.prog En101) (h : R118) : EnvOk Tryz.prog En118 := env_add hE (gen_sound I118 hE mo Tryz.func118 rfl rfl (fun x hx => h x.1 x.2.1 x.2.2.1 x.2.2.2.1 x.2.2.2.2.1 hx))
def R100 : Prop := ∀ (a0 : (List Bytes)) (bk : Bytes) (bp : Bytes) (bl : Int) (bps : (List Bytes)), (t100_ok a0 bk bp bl bps) = true → I100.run ⟨[.dat (.slice .str) a0, .clos 101 [.ptr 0 0]], [(0, .box [.dat .str bk, .dat .str bp, .dat tI bl, .dat (.slice .str) bps])]⟩ = some ⟨[.dat .bool (t100_0 a0 bk bp bl bps)], [(0, .box [.dat .str bk, .dat .str bp, .dat tI bl, .dat (.slice .str) bps])]⟩
theorem sd100 (hE : EnvOk Tryz.prog En118) (h : R100) : EnvOk Tryz.prog En100 := env_add hE (gen_sound I100 hE mo Tryz.func100 rfl rfl (fun x hx => h x.1 x.2.1 x.2.2.1 x.2.2.2.1 x.2.2.2.2.1 hx))
theorem rt100 (a0 : (List Bytes)) (bk : Bytes) (bp : Bytes) (bl : Int) (bps : (List Bytes)) : I100.run ⟨[.dat (.slice .str) a0, .clos 101 [.ptr 0 0]], [(0, .box [.dat .str bk, .dat .str bp, .dat tI bl, .dat (.slice .str) bps])]⟩ = (t100 a0 bk bp bl bps).map (fun r => ⟨[.dat .bool r], [(0, .box [.dat .str bk, .dat .str bp, .dat tI bl, .dat (.slice .str) bps])]⟩) := by
  rw [f100_run a0 bk bp bl bps]
  unfold t100
  simp only [omap_cond, Option.map_some, Option.map_none]
theorem r100 : R100 := by
  intro a0 bk bp bl bps h
  obtain ⟨r, hr⟩ := Option.isSome_iff_exists.1 h
  rw [rt100, hr]
  unfold t100_0
  rw [hr]; rfl
def R74 : Prop := ∀ (a0 : Item) (a1 : Item), (decide (List.length a0.2.2.2 ≤ 1000) && decide (List.length a1.2.2.2 ≤ 1000)) = true → I74.run ⟨[.dat tItem a0, .dat tItem a1], []⟩ = some ⟨[.dat .bool (comF a0 a1)], []⟩
theorem sd74 (hE : EnvOk Tryz.prog En100) (h : R74) : EnvOk Tryz.prog En74 := env_add hE (gen_sound I74 hE mo Tryz.func74 rfl rfl (fun x hx => h x.1 x.2.1 hx))
def R48 : Prop := ∀ (a0 : Prgm), (decide (List.length a0.1 ≤ 1000) && partsOk a0.1) = true → I48.run ⟨[.dat tPrgm a0], []⟩ = some ⟨[.agg [.dat tI (rankF a0).1, .dat tI (rankF a0).2.1, .slc 0]], [(0, .arr .str ((rankF a0).2.2))]⟩
theorem sd48 (hE : EnvOk Tryz.prog En74) (h : R48) : EnvOk Tryz.prog En48 := env_add hE (gen_sound I48 hE mo Tryz.func48 rfl rfl (fun x hx => h x.1 hx))
def R119 : Prop := ∀ (a0 : Bytes), (true) = true → I119.run ⟨[.dat .str a0], []⟩ = some ⟨[.dat .bool (t119_0 a0)], []⟩
theorem sd119 (hE : EnvOk Tryz.prog En48) (h : R119) : EnvOk Tryz.prog En119 := env_add hE (gen_sound I119 hE mo Tryz.func119 rfl rfl (fun x hx => h x.1 hx))
theorem r119 : R119 := by
  intro a0 _
  exact f119_run a0
def R102 : Prop := ∀ (a0 : Bytes) (a1 : Bytes), (true) = true → I102.run ⟨[.dat .str a0, .dat .str a1], []⟩ = some ⟨[.dat tI (cmpB a0 a1)], []⟩
theorem sd102 (hE : EnvOk Tryz.prog En119) (h : R102) : EnvOk Tryz.prog En102 := env_add hE (gen_sound I102 hE mo Tryz.func102 rfl rfl (fun x hx => h x.1 x.2.1 hx))
def R75 : Prop := ∀ (a0 : (List Bytes)) (a1 : (List Bytes)), (decide (List.length a0 ≤ 1000)) = true → I75.run ⟨[.dat (.slice .str) a0, .dat (.slice .str) a1], []⟩ = some ⟨[.dat tI (cmpS a0 a1)], []⟩
theorem sd75 (hE : EnvOk Tryz.prog En102) (h : R75) : EnvOk Tryz.prog En75 := env_add hE (gen_sound I75 hE mo Tryz.func75 rfl rfl (fun x hx => h x.1 x.2.1 hx))
def R49 : Prop := ∀ (a0 : Rank) (a1 : Rank), (decide (List.length a0.2.2 ≤ 1000)) = true → I49.run ⟨[.dat tRank a0, .dat tRank a1], []⟩ = some ⟨[.dat .bool (lessR a0 a1)], []⟩
theorem sd49 (hE : EnvOk Tryz.prog En75) (h : R49) : EnvOk Tryz.prog En49 := env_add hE (gen_sound I49 hE mo Tryz.func49 rfl rfl (fun x hx => h x.1 x.2.1 hx))
def R47 : Prop := ∀ (c1 : Int) (c2 : Int) (c3 : Int) (c4 : Int) (sm : Bool) (bl : Int) (bp : Int) (bk : (List Bytes)) (xs : (List Item)), (decide (List.length xs ≤ 1000) && partsOk xs) = true → I47.run ⟨[.ptr 0 0, .ptr 1 0, .ptr 2 0], [(0, .box [.slc 3, .dat tI c1, .dat tI c2, .dat tI c3, .dat tI c4]), (1, .box [.dat .bool sm]), (2, .box [.dat tI bl, .dat tI bp, .dat (.slice .str) bk]), (3, .arr tItem xs)]⟩ = some ⟨[], [(0, .box [.slc 3, .dat tI (c1), .dat tI (c2), .dat tI (c3), .dat tI (c4)]), (1, .box [.dat .bool ((updF (rankF (xs, (c1, (c2, (c3, c4))))) (sm, (bl, (bp, bk)))).1)]), (2, .box [.dat tI ((updF (rankF (xs, (c1, (c2, (c3, c4))))) (sm, (bl, (bp, bk)))).2.1), .dat tI ((updF (rankF (xs, (c1, (c2, (c3, c4))))) (sm, (bl, (bp, bk)))).2.2.1), .dat (.slice .str) ((updF (rankF (xs, (c1, (c2, (c3, c4))))) (sm, (bl, (bp, bk)))).2.2.2)]), (3, .arr tItem (xs))]⟩
theorem sd47 (hE : EnvOk Tryz.prog En49) (h : R47) : EnvOk Tryz.prog En47 := env_add hE (gen_sound I47 hE mo Tryz.func47 rfl rfl (fun x hx => h x.1 x.2.1 x.2.2.1 x.2.2.2.1 x.2.2.2.2.1 x.2.2.2.2.2.1 x.2.2.2.2.2.2.1 x.2.2.2.2.2.2.2.1 x.2.2.2.2.2.2.2.2.1 hx))
def R46 : Prop := ∀ (fr : Int) (xs : (List Item)) (c1 : Int) (c2 : Int) (c3 : Int) (c4 : Int) (sm : Bool) (bl : Int) (bp : Int) (bk : (List Bytes)), (decide (0 ≤ fr) && decide (fr ≤ (List.length xs : Int)) && decide ((List.length xs : Int) - fr ≤ 0) && partsOk xs && decide (List.length xs ≤ 5)) = true → I46.run ⟨[.slc 0, .dat tI fr, .clos 47 [.ptr 1 0, .ptr 2 0, .ptr 3 0]], [(0, .arr tItem xs), (1, .box [.slc 0, .dat tI c1, .dat tI c2, .dat tI c3, .dat tI c4]), (2, .box [.dat .bool sm]), (3, .box [.dat tI bl, .dat tI bp, .dat (.slice .str) bk])]⟩ = some ⟨[], [(0, .arr tItem (xs)), (1, .box [.slc 0, .dat tI (c1), .dat tI (c2), .dat tI (c3), .dat tI (c4)]), (2, .box [.dat .bool ((ordF (c1, (c2, (c3, c4))) (List.length xs - Int.toNat fr) xs (Int.toNat fr) (sm, (bl, (bp, bk)))).1)]), (3, .box [.dat tI ((ordF (c1, (c2, (c3, c4))) (List.length xs - Int.toNat fr) xs (Int.toNat fr) (sm, (bl, (bp, bk)))).2.1), .dat tI ((ordF (c1, (c2, (c3, c4))) (List.length xs - Int.toNat fr) xs (Int.toNat fr) (sm, (bl, (bp, bk)))).2.2.1), .dat (.slice .str) ((ordF (c1, (c2, (c3, c4))) (List.length xs - Int.toNat fr) xs (Int.toNat fr) (sm, (bl, (bp, bk)))).2.2.2)])]⟩
theorem sd46 (hE : EnvOk Tryz.prog En47) (h : R46) : EnvOk Tryz.prog En46 := env_add hE (gen_sound I46 hE mo Tryz.func46 rfl rfl (fun x hx => h x.1 x.2.1 x.2.2.1 x.2.2.2.1 x.2.2.2.2.1 x.2.2.2.2.2.1 x.2.2.2.2.2.2.1 x.2.2.2.2.2.2.2.1 x.2.2.2.2.2.2.2.2.1 x.2.2.2.2.2.2.2.2.2.1 hx))
def R46a : Prop := ∀ (fr : Int) (xs : (List Item)) (c1 : Int) (c2 : Int) (c3 : Int) (c4 : Int) (sm : Bool) (bl : Int) (bp : Int) (bk : (List Bytes)), (decide (0 ≤ fr) && decide (fr ≤ (List.length xs : Int)) && decide ((List.length xs : Int) - fr ≤ 1) && partsOk xs && decide (List.length xs ≤ 5)) = true → I46a.run ⟨[.slc 0, .dat tI fr, .clos 47 [.ptr 1 0, .ptr 2 0, .ptr 3 0]], [(0, .arr tItem xs), (1, .box [.slc 0, .dat tI c1, .dat tI c2, .dat tI c3, .dat tI c4]), (2, .box [.dat .bool sm]), (3, .box [.dat tI bl, .dat tI bp, .dat (.slice .str) bk])]⟩ = some ⟨[], [(0, .arr tItem (xs)), (1, .box [.slc 0, .dat tI (c1), .dat tI (c2), .dat tI (c3), .dat tI (c4)]), (2, .box [.dat .bool ((ordF (c1, (c2, (c3, c4))) (List.length xs - Int.toNat fr) xs (Int.toNat fr) (sm, (bl, (bp, bk)))).1)]), (3, .box [.dat tI ((ordF (c1, (c2, (c3, c4))) (List.length xs - Int.toNat fr) xs (Int.toNat fr) (sm, (bl, (bp, bk)))).2.1), .dat tI ((ordF (c1, (c2, (c3, c4))) (List.length xs - Int.toNat fr) xs (Int.toNat fr) (sm, (bl, (bp, bk)))).2.2.1), .dat (.slice .str) ((ordF (c1, (c2, (c3, c4))) (List.length xs - Int.toNat fr) xs (Int.toNat fr) (sm, (bl, (bp, bk)))).2.2.2)])]⟩
theorem sd46a (hE : EnvOk Tryz.prog En46) (h : R46a) : EnvOk Tryz.prog En46a := env_add hE (gen_sound I46a hE mo Tryz.func46 rfl rfl (fun x hx => h x.1 x.2.1 x.2.2.1 x.2.2.2.1 x.2.2.2.2.1 x.2.2.2.2.2.1 x.2.2.2.2.2.2.1 x.2.2.2.2.2.2.2.1 x.2.2.2.2.2.2.2.2.1 x.2.2.2.2.2.2.2.2.2.1 hx))
def R46b : Prop := ∀ (fr : Int) (xs : (List Item)) (c1 : Int) (c2 : Int) (c3 : Int) (c4 : Int) (sm : Bool) (bl : Int) (bp : Int) (bk : (List Bytes)), (decide (0 ≤ fr) && decide (fr ≤ (List.length xs : Int)) && decide ((List.length xs : Int) - fr ≤ 2) && partsOk xs && decide (List.length xs ≤ 5)) = true → I46b.run ⟨[.slc 0, .dat tI fr, .clos 47 [.ptr 1 0, .ptr 2 0, .ptr 3 0]], [(0, .arr tItem xs), (1, .box [.slc 0, .dat tI c1, .dat tI c2, .dat tI c3, .dat tI c4]), (2, .box [.dat .bool sm]), (3, .box [.dat tI bl, .dat tI bp, .dat (.slice .str) bk])]⟩ = some ⟨[], [(0, .arr tItem (xs)), (1, .box [.slc 0, .dat tI (c1), .dat tI (c2), .dat tI (c3), .dat tI (c4)]), (2, .box [.dat .bool ((ordF (c1, (c2, (c3, c4))) (List.length xs - Int.toNat fr) xs (Int.toNat fr) (sm, (bl, (bp, bk)))).1)]), (3, .box [.dat tI ((ordF (c1, (c2, (c3, c4))) (List.length xs - Int.toNat fr) xs (Int.toNat fr) (sm, (bl, (bp, bk)))).2.1), .dat tI ((ordF (c1, (c2, (c3, c4))) (List.length xs - Int.toNat fr) xs (Int.toNat fr) (sm, (bl, (bp, bk)))).2.2.1), .dat (.slice .str) ((ordF (c1, (c2, (c3, c4))) (List.length xs - Int.toNat fr) xs (Int.toNat fr) (sm, (bl, (bp, bk)))).2.2.2)])]⟩
theorem sd46b (hE : EnvOk Tryz.prog En46a) (h : R46b) : EnvOk Tryz.prog En46b := env_add hE (gen_sound I46b hE mo Tryz.func46 rfl rfl (fun x hx => h x.1 x.2.1 x.2.2.1 x.2.2.2.1 x.2.2.2.2.1 x.2.2.2.2.2.1 x.2.2.2.2.2.2.1 x.2.2.2.2.2.2.2.1 x.2.2.2.2.2.2.2.2.1 x.2.2.2.2.2.2.2.2.2.1 hx))
def R46c : Prop := ∀ (fr : Int) (xs : (List Item)) (c1 : Int) (c2 : Int) (c3 : Int) (c4 : Int) (sm : Bool) (bl : Int) (bp : Int) (bk : (List Bytes)), (decide (0 ≤ fr) && decide (fr ≤ (List.length xs : Int)) && decide ((List.length xs : Int) - fr ≤ 3) && partsOk xs && decide (List.length xs ≤ 5)) = true → I46c.run ⟨[.slc 0, .dat tI fr, .clos 47 [.ptr 1 0, .ptr 2 0, .ptr 3 0]], [(0, .arr tItem xs), (1, .box [.slc 0, .dat tI c1, .dat tI c2, .dat tI c3, .dat tI c4]), (2, .box [.dat .bool sm]), (3, .box [.dat tI bl, .dat tI bp, .dat (.slice .str) bk])]⟩ = some ⟨[], [(0, .arr tItem (xs)), (1, .box [.slc 0, .dat tI (c1), .dat tI (c2), .dat tI (c3), .dat tI (c4)]), (2, .box [.dat .bool ((ordF (c1, (c2, (c3, c4))) (List.length xs - Int.toNat fr) xs (Int.toNat fr) (sm, (bl, (bp, bk)))).1)]), (3, .box [.dat tI ((ordF (c1, (c2, (c3, c4))) (List.length xs - Int.toNat fr) xs (Int.toNat fr) (sm, (bl, (bp, bk)))).2.1), .dat tI ((ordF (c1, (c2, (c3, c4))) (List.length xs - Int.toNat fr) xs (Int.toNat fr) (sm, (bl, (bp, bk)))).2.2.1), .dat (.slice .str) ((ordF (c1, (c2, (c3, c4))) (List.length xs - Int.toNat fr) xs (Int.toNat fr) (sm, (bl, (bp, bk)))).2.2.2)])]⟩
theorem sd46c (hE : EnvOk Tryz.prog En46b) (h : R46c) : EnvOk Tryz.prog En46c := env_add hE (gen_sound I46c hE mo Tryz.func46 rfl rfl (fun x hx => h x.1 x.2.1 x.2.2.1 x.2.2.2.1 x.2.2.2.2.1 x.2.2.2.2.2.1 x.2.2.2.2.2.2.1 x.2.2.2.2.2.2.2.1 x.2.2.2.2.2.2.2.2.1 x.2.2.2.2.2.2.2.2.2.1 hx))
def R46d : Prop := ∀ (fr : Int) (xs : (List Item)) (c1 : Int) (c2 : Int) (c3 : Int) (c4 : Int) (sm : Bool) (bl : Int) (bp : Int) (bk : (List Bytes)), (decide (0 ≤ fr) && decide (fr ≤ (List.length xs : Int)) && decide ((List.length xs : Int) - fr ≤ 4) && partsOk xs && decide (List.length xs ≤ 5)) = true → I46d.run ⟨[.slc 0, .dat tI fr, .clos 47 [.ptr 1 0, .ptr 2 0, .ptr 3 0]], [(0, .arr tItem xs), (1, .box [.slc 0, .dat tI c1, .dat tI c2, .dat tI c3, .dat tI c4]), (2, .box [.dat .bool sm]), (3, .box [.dat tI bl, .dat tI bp, .dat (.slice .str) bk])]⟩ = some ⟨[], [(0, .arr tItem (xs)), (1, .box [.slc 0, .dat tI (c1), .dat tI (c2), .dat tI (c3), .dat tI (c4)]), (2, .box [.dat .bool ((ordF (c1, (c2, (c3, c4))) (List.length xs - Int.toNat fr) xs (Int.toNat fr) (sm, (bl, (bp, bk)))).1)]), (3, .box [.dat tI ((ordF (c1, (c2, (c3, c4))) (List.length xs - Int.toNat fr) xs (Int.toNat fr) (sm, (bl, (bp, bk)))).2.1), .dat tI ((ordF (c1, (c2, (c3, c4))) (List.length xs - Int.toNat fr) xs (Int.toNat fr) (sm, (bl, (bp, bk)))).2.2.1), .dat (.slice .str) ((ordF (c1, (c2, (c3, c4))) (List.length xs - Int.toNat fr) xs (Int.toNat fr) (sm, (bl, (bp, bk)))).2.2.2)])]⟩
theorem sd46d (hE : EnvOk Tryz.prog En46c) (h : R46d) : EnvOk Tryz.prog En46d := env_add hE (gen_sound I46d hE mo Tryz.func46 rfl rfl (fun x hx => h x.1 x.2.1 x.2.2.1 x.2.2.2.1 x.2.2.2.2.1 x.2.2.2.2.2.1 x.2.2.2.2.2.2.1 x.2.2.2.2.2.2.2.1 x.2.2.2.2.2.2.2.2.1 x.2.2.2.2.2.2.2.2.2.1 hx))
def R46e : Prop := ∀ (fr : Int) (xs : (List Item)) (c1 : Int) (c2 : Int) (c3 : Int) (c4 : Int) (sm : Bool) (bl : Int) (bp : Int) (bk : (List Bytes)), (decide (0 ≤ fr) && decide (fr ≤ (List.length xs : Int)) && decide ((List.length xs : Int) - fr ≤ 5) && partsOk xs && decide (List.length xs ≤ 5)) = true → I46e.run ⟨[.slc 0, .dat tI fr, .clos 47 [.ptr 1 0, .ptr 2 0, .ptr 3 0]], [(0, .arr tItem xs), (1, .box [.slc 0, .dat tI c1, .dat tI c2, .dat tI c3, .dat tI c4]), (2, .box [.dat .bool sm]), (3, .box [.dat tI bl, .dat tI bp, .dat (.slice .str) bk])]⟩ = some ⟨[], [(0, .arr tItem (xs)), (1, .box [.slc 0, .dat tI (c1), .dat tI (c2), .dat tI (c3), .dat tI (c4)]), (2, .box [.dat .bool ((ordF (c1, (c2, (c3, c4))) (List.length xs - Int.toNat fr) xs (Int.toNat fr) (sm, (bl, (bp, bk)))).1)]), (3, .box [.dat tI ((ordF (c1, (c2, (c3, c4))) (List.length xs - Int.toNat fr) xs (Int.toNat fr) (sm, (bl, (bp, bk)))).2.1), .dat tI ((ordF (c1, (c2, (c3, c4))) (List.length xs - Int.toNat fr) xs (Int.toNat fr) (sm, (bl, (bp, bk)))).2.2.1), .dat (.slice .str) ((ordF (c1, (c2, (c3, c4))) (List.length xs - Int.toNat fr) xs (Int.toNat fr) (sm, (bl, (bp, bk)))).2.2.2)])]⟩
theorem sd46e (hE : EnvOk Tryz.prog En46d) (h : R46e) : EnvOk Tryz.prog En46e := env_add hE (gen_sound I46e hE mo Tryz.func46 rfl rfl (fun x hx => h x.1 x.2.1 x.2.2.1 x.2.2.2.1 x.2.2.2.2.1 x.2.2.2.2.2.1 x.2.2.2.2.2.2.1 x.2.2.2.2.2.2.2.1 x.2.2.2.2.2.2.2.2.1 x.2.2.2.2.2.2.2.2.2.1 hx))
def R19 : Prop := ∀ (a0 : (List Item)), (decide (List.length a0 ≤ 1000)) = true → I19.run ⟨[.dat (.slice tItem) a0], []⟩ = some ⟨[.slc 0], [(0, .arr tItem (a0))]⟩
theorem sd19 (hE : EnvOk Tryz.prog En46e) (h : R19) : EnvOk Tryz.prog En19 := env_add hE (gen_sound I19 hE mo Tryz.func19 rfl rfl (fun x hx => h x.1 hx))
def R23 : Prop := ∀ (a0 : Prgm), (decide (List.length a0.1 ≤ 5)) = true → I23.run ⟨[.dat tPrgm a0], []⟩ = some ⟨[.dat (.slice .str) ((ordR a0).1), .dat tI ((ordR a0).2.1), .dat tI ((ordR a0).2.2)], []⟩
theorem sd23 (hE : EnvOk Tryz.prog En19) (h : R23) : EnvOk Tryz.prog En23 := env_add hE (gen_sound I23 hE mo Tryz.func23 rfl rfl (fun x hx => h x.1 hx))
def R76 : Prop := ∀ (a0 : Item) (k : Bytes), (true) = true → I76.run ⟨[.dat tItem a0, .ptr 0 0], [(0, .box [.dat .str k])]⟩ = some ⟨[.dat .bool (t76_0 a0 k)], [(0, .box [.dat .str k])]⟩
theorem sd76 (hE : EnvOk Tryz.prog En23) (h : R76) : EnvOk Tryz.prog En76 := env_add hE (gen_sound I76 hE mo Tryz.func76 rfl rfl (fun x hx => h x.1 x.2.1 hx))
theorem r76 : R76 := by
  intro a0 k _
  exact f76_run a0 k
def R44a : Prop := ∀ (a0 : (List Item)) (k : Bytes), (decide (List.length a0 ≤ 1000)) = true → I44a.run ⟨[.dat (.slice tItem) a0, .clos 76 [.ptr 0 0]], [(0, .box [.dat .str k])]⟩ = some ⟨[.dat tI (idxBy (fun o => t76_0 o k) a0 0)], [(0, .box [.dat .str (k)])]⟩
theorem sd44a (hE : EnvOk Tryz.prog En76) (h : R44a) : EnvOk Tryz.prog En44a := env_or hE rfl (gen_sound I44a hE mo Tryz.func44 rfl rfl (fun x hx => h x.1 x.2.1 hx))
def R50 : Prop := ∀ (a0 : Prgm) (a1 : Bytes), (t50_ok a0 a1) = true → I50.run ⟨[.dat tPrgm a0, .dat .str a1], []⟩ = some ⟨[.dat tI (t50_0 a0 a1)], []⟩
theorem sd50 (hE : EnvOk Tryz.prog En44a) (h : R50) : EnvOk Tryz.prog En50 := env_add hE (gen_sound I50 hE mo Tryz.func50 rfl rfl (fun x hx => h x.1 x.2.1 hx))
theorem rt50 (a0 : Prgm) (a1 : Bytes) : I50.run ⟨[.dat tPrgm a0, .dat .str a1], []⟩ = (t50 a0 a1).map (fun r => ⟨[.dat tI r], []⟩) := by
  rw [f50_run a0 a1]
  unfold t50
  simp only [omap_cond, Option.map_some, Option.map_none]
theorem r50 : R50 := by
  intro a0 a1 h
  obtain ⟨r, hr⟩ := Option.isSome_iff_exists.1 h
  rw [rt50, hr]
  unfold t50_0
  rw [hr]; rfl
def R22 : Prop := ∀ (a0 : (List Bytes)), (decide (List.length a0 ≤ 1000)) = true → I22.run ⟨[.dat (.slice .str) a0], []⟩ = some ⟨[.slc 0], [(0, .arr .str (a0))]⟩
theorem sd22 (hE : EnvOk Tryz.prog En50) (h : R22) : EnvOk Tryz.prog En22 := env_add hE (gen_sound I22 hE mo Tryz.func22 rfl rfl (fun x hx => h x.1 hx))
def R51 : Prop := ∀ (a0 : Item), (t51_ok a0) = true → I51.run ⟨[.dat tItem a0], []⟩ = some ⟨[.dat tItem (t51_0 a0)], []⟩
theorem sd51 (hE : EnvOk Tryz.prog En22) (h : R51) : EnvOk Tryz.prog En51 := env_add hE (gen_sound I51 hE mo Tryz.func51 rfl rfl (fun x hx => h x.1 hx))
theorem rt51 (a0 : Item) : I51.run ⟨[.dat tItem a0], []⟩ = (t51 a0).map (fun r => ⟨[.dat tItem r], []⟩) := by
  rw [f51_run a0]
  unfold t51
  simp only [omap_cond, Option.map_some, Option.map_none]
theorem r51 : R51 := by
  intro a0 h
  obtain ⟨r, hr⟩ := Option.isSome_iff_exists.1 h
  rw [rt51, hr]
  unfold t51_0
  rw [hr]; rfl
def R24 : Prop := ∀ (a0 : Prgm) (a1 : (List Bytes)), (decide (List.length a1 ≤ 1000)) = true → I24.run ⟨[.dat tPrgm a0, .dat (.slice .str) a1], []⟩ = some ⟨[.dat tPrgm ((movP a0 a1).1), .dat tI ((movP a0 a1).2)], []⟩
theorem sd24 (hE : EnvOk Tryz.prog En51) (h : R24) : EnvOk Tryz.prog En24 := env_add hE (gen_sound I24 hE mo Tryz.func24 rfl rfl (fun x hx => h x.1 x.2.1 hx))
def R25 : Prop := ∀ (a0 : Int) (L : (List Int)) (at_ : Int), (atOk 100 at_ && decide (0 ≤ a0) && decide (a0 ≤ 5)) = true → I25.run ⟨[.ptr 0 0, .dat tI a0], [(0, .box [.dat (.slice tI) L, .dat tI at_])]⟩ = some ⟨[.dat (.slice tI) ((aOrder L at_ a0).2)], [(0, .box [.dat (.slice tI) (L), .dat tI ((aOrder L at_ a0).1)])]⟩
theorem sd25 (hE : EnvOk Tryz.prog En24) (h : R25) : EnvOk Tryz.prog En25 := env_add hE (gen_sound I25 hE mo Tryz.func25 rfl rfl (fun x hx => h x.1 x.2.1 x.2.2.1 hx))
def R6 : Prop := ∀ (a0 : (List Int)), (true) = true → I6.run ⟨[.dat (.slice tI) a0], []⟩ = some ⟨[.dat .bool true], []⟩
theorem law (hE : EnvOk Tryz.prog En25) (h : R6) : Sound Tryz.prog En25.gl 6 S6 := And.left (b := Enters Tryz.prog 6) (gen_sound I6 hE mo Tryz.func6 rfl rfl (fun x hx => h x.1 hx))
end Go.Ev.X

set_option linter.unusedVariables false
set_option linter.unusedSimpArgs false
namespace Go.Ev.X
open Go Go.Ev Go.Proofs
/-! ### small things (rw [condT (dT (by first | omega | (simp only [List.length_append, List.length_cons, List.length_nil, List.length_set, List.length_take, List.length_drop, List.length_map]; omega) | (simp; omega)))], repeat (rw [condT (dT (by first | omega | (simp only [List.length_append, List.length_cons, List.length_nil, List.length_set, List.length_take, List.length_drop, List.length_map]; omega) | (simp; omega)))]), st: words that tmpl2.py writes out) -/
theorem c12 {α : Type} {a b : α} : cond ((12 : Int) == 0) a b = b := rfl
theorem range1 (i m : Nat) : List.range' i (m + 1) = i :: List.range' (i + 1) m := by rw [List.range'_succ]

theorem r54 : R54 := by
  intro a0 a1 _
  rw [f54_run]
  unfold below
  by_cases h1 : a1 < 1
  · simp [h1]
  · have h0 : (a1 == 0) = false := by simp; omega
    by_cases h2 : a0.tmod a1 < 0 <;> simp [h1, h0, h2]

theorem atOk_iff {k a : Int} : atOk k a = true ↔ 0 ≤ a ∧ a + k ≤ 1099511627776 := by simp [atOk]

theorem nextAt_eq {k a : Int} (h : atOk k a = true) (hk : 0 ≤ k) : nextAt a = a + 1 := by
  rw [atOk_iff] at h
  unfold nextAt
  exact wrap_in (by omega) (by omega)

theorem r33 : R33 := by
  intro a0 L at_ h
  rw [f33_run]
  have h1 := atOk_iff.1 h
  have e1 : wrap .i64 (at_ + 1) = at_ + 1 := wrap_in (by omega) (by omega)
  have e2 : wrap .i64 (at_ + 1 - 1) = at_ := by rw [wrap_in (by omega) (by omega)]; omega
  unfold next rawNext nextAt
  by_cases h0 : L = []
  · subst h0; simp
  · have hl : 0 < L.length := List.length_pos_iff.2 h0
    have hne : ((L.length : Int) == 0) = false := by simp; omega
    have ht0 : decide ((0 : Int) ≤ Int.tmod at_ L.length) = true := by simp; exact Int.tmod_nonneg _ h1.1
    have ht1 : decide (Int.tmod at_ L.length < L.length) = true := by simp; exact Int.tmod_lt_of_pos _ (by omega)
    simp only [hne, cond_false, e1, e2, ht0, ht1, cond_true]

theorem below_range {x n : Int} (h1 : 1 ≤ n) (h2 : n ≤ 4611686018427387904) : 0 ≤ below x n ∧ below x n < n := by
  unfold below
  have hlt : decide (n < 1) = false := by simp; omega
  have h3 := Int.tmod_lt_of_pos x (show 0 < n by omega)
  have h4 : -n < x.tmod n := Int.lt_tmod_of_pos x (by omega)
  rw [hlt, cond_false]
  by_cases h : x.tmod n < 0
  · rw [condT (by simpa using h), wrap_in (by omega) (by omega)]; omega
  · rw [condF (by simpa using h)]; omega

theorem next_range (L : List Int) (at_ : Int) {n : Int} (h1 : 1 ≤ n) (h2 : n ≤ 4611686018427387904) : 0 ≤ next L at_ n ∧ next L at_ n < n := below_range h1 h2

theorem r31 : R31 := by
  intro a0 L at_ h
  rw [f31_run, h]; rfl

theorem r30 : R30 := by
  intro a0 L at_ h
  simp only [Bool.and_eq_true, decide_eq_true_eq] at h
  obtain ⟨⟨h1, h2⟩, h3⟩ := h
  have hr := next_range L at_ (n := (a0.length : Int)) (by omega) (by omega)
  rw [f30_run, h1]
  have q1 : decide ((0 : Int) ≤ next L at_ a0.length) = true := by simpa using hr.1
  have q2 : decide (next L at_ a0.length < a0.length) = true := by simpa using hr.2
  rw [q1, q2]; rfl

theorem r42 : R42 := by
  intro a0 a1 a2 _
  rw [f42_run]
  unfold outside
  cases decide (a0 < a1) <;> rfl

theorem atOk_t {k a : Int} (h1 : 0 ≤ a) (h2 : a + k ≤ 1099511627776) : atOk k a = true := atOk_iff.2 ⟨h1, h2⟩
theorem nextAt_s {a : Int} (h1 : 0 ≤ a) (h2 : a + 1 ≤ 1099511627776) : nextAt a = a + 1 := wrap_in (by omega) (by omega)
theorem rangeAt_s {a lo hi : Int} (h0 : lo ≤ hi) (h1 : 0 ≤ a) (h2 : a + 1 ≤ 1099511627776) : rangeAt a lo hi = a + 1 := by
  unfold rangeAt
  rw [condF (by simp; omega)]; exact nextAt_s h1 h2
theorem rangeS_in (L : List Int) (a : Int) {lo hi : Int} (h : lo ≤ hi) (h1 : -1000000000 ≤ lo) (h2 : hi ≤ 1000000000) : lo ≤ rangeS L a lo hi ∧ rangeS L a lo hi ≤ hi := by
  unfold rangeS
  rw [condF (by simp; omega), wrap_in (x := hi - lo) (by omega) (by omega), wrap_in (x := hi - lo + 1) (by omega) (by omega)]
  have := next_range L a (n := hi - lo + 1) (by omega) (by omega)
  rw [wrap_in (by omega) (by omega)]; omega
theorem oddAt (L : List Int) {a lo hi : Int} (h0 : lo ≤ hi) (h1 : 0 ≤ a) (h2 : a + 2 ≤ 1099511627776) : (oddS L a lo hi).1 = a + 2 := by
  unfold oddS
  cases next L a 12 == 0
  · simp only [cond_false]; rw [nextAt_s h1 (by omega), rangeAt_s h0 (by omega) (by omega)]; omega
  · simp only [cond_true]; rw [nextAt_s h1 (by omega), nextAt_s (by omega) (by omega)]; omega
theorem len_t {n m : Nat} (h : n ≤ m) : decide (n ≤ m) = true := dT h
theorem atOk_and {k a : Int} {p q : Bool} (h1 : 0 ≤ a) (h2 : a + k ≤ 1099511627776) (hp : p = true) (hq : q = true) : (atOk k a && p && q) = true := by
  rw [atOk_t h1 h2, hp, hq]; rfl
theorem bself (n : Int) : (n == n) = true := by simp

theorem r32 : R32 := by
  intro a0 L at_ h
  simp only [Bool.and_eq_true, decide_eq_true_eq] at h
  obtain ⟨⟨h1, h2⟩, h3⟩ := h
  have hr := next_range L at_ (n := (a0.length : Int)) (by omega) (by omega)
  rw [f32_run, h1]
  have q1 : decide ((0 : Int) ≤ next L at_ a0.length) = true := by simpa using hr.1
  have q2 : decide (next L at_ a0.length < a0.length) = true := by simpa using hr.2
  rw [q1, q2]; rfl

theorem r22 : R22 := by
  intro a0 h
  simp only [decide_eq_true_eq] at h
  rw [f22_run, condT (dT (by simp; omega))]
  cases a0 with
  | nil => simp [both_self]
  | cons x l => simp

theorem idxBy_any {α : Type} (p : α → Bool) : ∀ (l : List α) (i : Nat), decide (idxBy p l i ≥ 0) = l.any p
  | [], i => by simp [idxBy]
  | x :: l, i => by
    have ih := idxBy_any p l (i + 1)
    simp only [idxBy, List.any_cons]
    by_cases hx : p x = true
    · simp [hx]
    · have hx : p x = false := by simpa using hx
      simp only [hx, cond_false, Bool.false_or]; exact ih

theorem go44 (xs : List Item) (hb : xs.length ≤ 1000) (k pl : Bytes) (lg : Int) (ps : List Bytes) : ∀ (m i : Nat), i + m = xs.length →
    f44h0 xs xs.length i k pl lg ps = some ⟨[.dat tI (idxBy (fun o => t80_0 o k pl lg ps) (xs.drop i) i)], [(0, .box [.dat .str k, .dat .str pl, .dat tI lg, .dat (.slice .str) ps])]⟩ := by
  intro m
  induction m with
  | zero => intro i hi; rw [f44h0_eq, dlt_not (by omega), dnil (by omega)]; rfl
  | succ m ih =>
    intro i hi
    have hlt : i < xs.length := by omega
    rw [f44h0_eq, dlt hlt, dle0, getN _ _ _ hlt, wsucc (by omega), ih (i + 1) (by omega), dcons hlt]
    simp only [cond_true, idxBy]
    cases t80_0 xs[i] k pl lg ps <;> rfl

theorem r44 : R44 := by
  intro a0 k pl lg ps h
  simp only [decide_eq_true_eq] at h
  rw [f44_run]
  exact go44 a0 h k pl lg ps a0.length 0 (by omega)

theorem r78 : R78 := by
  intro a0 _
  rw [f78_run]
  show (cond (!(a0 == [])) (cond (decide ((a0.length : Int) ≤ 40)) (cond (decide ((0 : Int) ≤ 0)) (cond (decide ((0 : Int) < (a0.length : Int))) (cond (decide (indexB smallsB ((a0.getD 0 0).toNat : Int) ≥ 0)) (cond (trimOk a0 keyB) (some (α := Fr) ⟨[.dat .bool (trimB a0 keyB == [])], []⟩) none) (some (α := Fr) ⟨[.dat .bool false], []⟩)) none) none) (some (α := Fr) ⟨[.dat .bool false], []⟩)) (some (α := Fr) ⟨[.dat .bool false], []⟩)) = some (α := Fr) ⟨[.dat .bool (!(a0 == []) && decide ((a0.length : Int) ≤ 40) && decide (indexB smallsB ((a0.getD 0 0).toNat : Int) ≥ 0) && (trimB a0 keyB == []))], []⟩
  generalize hz : decide (indexB smallsB ((a0.getD 0 0).toNat : Int) ≥ 0) = z
  cases h1 : !(a0 == []) with
  | false => rfl
  | true =>
    cases h2 : decide ((a0.length : Int) ≤ 40) with
    | false => rfl
    | true =>
      have h1' : 0 < a0.length := by
        cases a0 with
        | nil => simp at h1
        | cons x l => simp
      have h2' : (a0.length : Int) ≤ 40 := by simpa using h2
      have q : trimOk a0 keyB = true := by
        unfold trimOk
        rw [dT (by omega), show decide (keyB.length ≤ 1000) = true from by decide, show (keyB.all fun b => decide (b.toNat < 128)) = true from by decide]; rfl
      have q0 : decide ((0 : Int) < (a0.length : Int)) = true := dT (by omega)
      simp only [cond_true, q0, Bool.true_and, q, show decide ((0 : Int) ≤ 0) = true from rfl]
      cases z <;> rfl

theorem go81 (xs : List Bytes) (hb : xs.length ≤ 1000) : ∀ (m i : Nat) (prev : Option Bytes), i + m = xs.length → (i = 0 ∧ prev = none ∨ ∃ h : 0 < i ∧ i - 1 < xs.length, prev = some (xs[i - 1]'h.2)) →
    f81h0 xs xs xs.length i = some ⟨[.dat tI (risingGo isKey prev (xs.drop i))], []⟩ := by
  intro m
  induction m with
  | zero => intro i prev hi hp; rw [f81h0_eq, dlt_not (by omega), dnil (by omega)]; rfl
  | succ m ih =>
    intro i prev hi hp
    have hlt : i < xs.length := by omega
    have ih' := ih (i + 1) (some xs[i]) (by omega) (.inr ⟨⟨by omega, by omega⟩, rfl⟩)
    rw [f81h0_eq, dlt hlt, dle0, getN _ _ _ hlt, wsucc (by omega), ih', dcons hlt]
    simp only [cond_true, risingGo]
    cases isKey xs[i] with
    | false => rfl
    | true =>
      simp only [Bool.not_true, cond_false]
      rcases hp with ⟨rfl, rfl⟩ | ⟨⟨h1, h2⟩, rfl⟩
      · rfl
      · have e : wrap .i64 ((i : Int) - 1) = ((i - 1 : Nat) : Int) := by rw [wrap_in (by omega) (by omega)]; omega
        rw [e, dle0, dlt h2, getN _ _ _ h2, condT (dT (by omega))]
        simp only [cond_true, notAfter]
        cases bLess xs[i] xs[i - 1] || xs[i] == xs[i - 1] <;> rfl

theorem r81 : R81 := by
  intro a0 _
  rw [f81_run]
  unfold partsF
  cases h1 : ((a0.length : Int) == 0) with
  | true => rfl
  | false =>
    cases h2 : decide ((a0.length : Int) > 12) with
    | true => rfl
    | false =>
      simp only [cond_false]
      have : ¬ (a0.length : Int) > 12 := by simpa using h2
      exact go81 a0 (by omega) a0.length 0 none (by omega) (.inl ⟨rfl, rfl⟩)


end Go.Ev.X

set_option linter.unusedVariables false
set_option linter.unusedSimpArgs false
namespace Go.Ev.X
open Go Go.Ev Go.Proofs
theorem okC (l : List Item) (k pl : Bytes) (lg : Int) (ps : List Bytes) (h : l.length ≤ 1000) : t79_ok l k pl lg ps = true ∧
    t79_0 l k pl lg ps = (l.any fun o => o.1 == k) := by
  unfold t79_ok t79_0 t79
  rw [dT h]
  refine ⟨rfl, ?_⟩
  exact idxBy_any _ l 0

theorem go55 (xs : List Item) (hb : xs.length ≤ 60) : ∀ (m i : Nat), i + m = xs.length →
    f55h0 xs xs xs.length i = some ⟨[.dat tI (itemsGo isKey (xs.take i) (xs.drop i))], []⟩ := by
  intro m
  induction m with
  | zero => intro i hi; rw [f55h0_eq, dlt_not (by omega), dnil (xs := xs) (i := i) (by omega)]; rfl
  | succ m ih =>
    intro i hi
    have hlt : i < xs.length := by omega
    have ih' := ih (i + 1) (by omega)
    have hl : (xs.take i).length ≤ 1000 := by rw [List.length_take]; omega
    rw [List.take_succ_eq_append_getElem hlt] at ih'
    rw [f55h0_eq, dlt hlt, dle0, getN _ _ _ hlt, wsucc (by omega), ih', dcons hlt]
    have e : List.drop (Int.toNat 0) (List.take (Int.toNat (i : Int)) xs) = xs.take i := rfl
    obtain ⟨q1, q2⟩ := okC (xs.take i) xs[i].1 xs[i].2.1 xs[i].2.2.1 xs[i].2.2.2 hl
    rw [e, q1, q2, dT (p := (i : Int) ≤ (xs.length : Int)) (by omega), show decide ((0 : Int) ≤ 0) = true from rfl]
    simp only [cond_true, itemsGo]
    cases isKey xs[i].1 with
    | false => rfl
    | true =>
      cases isKey xs[i].2.1 with
      | false => rfl
      | true =>
        simp only [Bool.not_true, cond_false, Bool.or_false]
        cases (xs.take i).any fun o => o.1 == xs[i].1 with
        | true => rfl
        | false =>
          cases outside xs[i].2.2.1 1 86400000 with
          | true => rfl
          | false =>
            simp only [cond_false]
            cases partsF isKey xs[i].2.2.2 != 0 <;> rfl

theorem r55 : R55 := by
  intro a0 _
  rw [f55_run]
  unfold checkItems
  cases h2 : decide ((a0.length : Int) > 60) with
  | true => rfl
  | false =>
    have : ¬ (a0.length : Int) > 60 := by simpa using h2
    exact go55 a0 (by omega) a0.length 0 (by omega)

theorem outside_in (n lo hi : Int) : outside n lo hi = !inR n lo hi := by
  unfold outside inR
  have h1 : decide (n < lo) = !decide (lo ≤ n) := by
    by_cases h : lo ≤ n
    · have : ¬ n < lo := by omega
      simp [h, this]
    · have : n < lo := by omega
      simp [h, this]
  have h2 : decide (n > hi) = !decide (n ≤ hi) := by
    by_cases h : n ≤ hi
    · have : ¬ n > hi := by omega
      simp [h, this]
    · have : n > hi := by omega
      simp [h, this]
  rw [h1, h2, Bool.not_and]

theorem r34 : R34 := by
  intro a0 _
  rw [f34_run]
  unfold checkProg
  cases checkItems isKey a0.1 != 0 with
  | true => rfl
  | false =>
    simp only [cond_false]
    have e : (if (-1 : Int) < (wrap .i64 ((a0.1.length : Int) - 2)) then (wrap .i64 ((a0.1.length : Int) - 2)) else (-1 : Int)) = mx (-1) (wrap .i64 ((a0.1.length : Int) - 2)) := rfl
    rw [e]
    cases outside a0.2.1 0 86400000 with
    | true => rfl
    | false =>
      cases outside a0.2.2.1 0 86400000 with
      | true => rfl
      | false =>
        cases outside a0.2.2.2.1 0 86400000 with
        | true => rfl
        | false => cases outside a0.2.2.2.2 (-1) (mx (-1) (wrap .i64 ((a0.1.length : Int) - 2))) <;> rfl

theorem ix_iff {p : Prgm} {i : Int} : (decide (0 ≤ i) && decide (i + 1 < (List.length p.1 : Int)) && decide (List.length p.1 ≤ 1000)) = true ↔ 0 ≤ i ∧ i + 1 < (p.1.length : Int) ∧ p.1.length ≤ 1000 := by
  simp only [Bool.and_eq_true, decide_eq_true_eq, and_assoc]

theorem r72 : R72 := by
  intro a0 a1 h
  obtain ⟨h1, h2, h3⟩ := ix_iff.1 h
  rw [f72_run, wrap_in (x := a1 + 1) (by omega) (by omega), dT (p := (0 : Int) ≤ a1) h1, dT (p := a1 < (a0.1.length : Int)) (by omega), dT (p := (0 : Int) ≤ a1 + 1) (by omega), dT (p := a1 + 1 < (a0.1.length : Int)) h2]
  simp only [cond_true]
  unfold behindF gapAt t98_0 t98
  cases a1 == a0.2.2.2.2 <;> rfl

theorem behind_eq (p : Prgm) (i : Nat) (h : i + 1 < p.1.length) : behindF p i = gapAt p i p.1[i] p.1[i + 1] := by
  have h' : i < p.1.length := by omega
  unfold behindF
  have e : ((i : Int) + 1) = ((i + 1 : Nat) : Int) := by omega
  rw [e, getN _ _ _ h', getN _ _ _ h]

theorem go40 (p : Prgm) (hb : p.1.length ≤ 1000) : ∀ (m i : Nat) (a : Int) (out : List Int), i + m = p.1.length → out.length ≤ i →
    f40h0 a p.1 p.1.length i p.1 p.2.1 p.2.2.1 p.2.2.2.1 p.2.2.2.2 out = some ⟨[.slc 0, .dat tI (begGo p i a (p.1.drop i)).2], [(0, .arr tI (out ++ (begGo p i a (p.1.drop i)).1))]⟩ := by
  intro m
  induction m with
  | zero => intro i a out hi ho; rw [f40h0_eq, dlt_not (by omega), dnil (by omega)]; simp [begGo]
  | succ m ih =>
    intro i a out hi ho
    have hlt : i < p.1.length := by omega
    rw [f40h0_eq, dlt hlt, dle0, getN _ _ _ hlt, wsucc (by omega), dcons hlt, dT (p := (out.length + [a].length) * 8 ≤ 140737488355328) (by simp; omega)]
    simp only [cond_true]
    by_cases hn : i + 1 < p.1.length
    · rw [dlt hn, ih (i + 1) _ _ (by omega) (by simp; omega), dcons hn]
      have q : (true && decide ((i : Int) + 1 < (List.length p.1 : Int)) && decide (List.length p.1 ≤ 1000)) = true := by rw [dT (p := (i : Int) + 1 < (List.length p.1 : Int)) (by omega), dT hb]; rfl
      rw [cond_true, condT q]
      have e : (p.1, (p.2.1, (p.2.2.1, (p.2.2.2.1, p.2.2.2.2)))) = p := rfl
      rw [e, behind_eq p i hn]
      simp only [begGo, List.append_assoc, List.singleton_append]
      rfl
    · rw [dlt_not (i := i + 1) (n := p.1.length) (by omega), cond_false, ih (i + 1) _ _ (by omega) (by simp; omega), dnil (by omega)]
      simp [begGo]

theorem r40 : R40 := by
  intro a0 h
  simp only [decide_eq_true_eq] at h
  rw [f40_run]
  have := go40 a0 h a0.1.length 0 0 [] (by omega) (by simp)
  simpa using this


end Go.Ev.X
