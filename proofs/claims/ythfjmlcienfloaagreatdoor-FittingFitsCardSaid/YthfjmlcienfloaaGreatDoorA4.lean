import Derived.Test.YthfjmlcienfloaaGreatDoorA3
import Derived.IntWalk
import Derived.Lib.Bytealg
import Derived.Lib.SlTrimSet
import Derived.Test.YthfjmlcienfloaaGreatDoorProg
import Derived.Below
import Derived.Shelf.Small.Strs
import Derived.Shelf.Strings.SlTrimAscii
import Derived.Shelf.SlIter.Nil
import Derived.Shelf.SortM.Plain
import Derived.Shelf.SortM.SortNone
import Derived.Ground.GgzProg
import Derived.Ground.SlgmProg
set_option linter.unusedSimpArgs false
set_option linter.unusedVariables false
namespace Go.Ev
open Go

/-! ### short ways to write things -/
abbrev wrap : IntKind → Int → Int := IntKind.wrap
abbrev tI : Tc := .int .i64
def codeOf (f : Func) : Code := f.body.getD .skip

/-- The way to the loop in block t. -/
def stk (t : Nat) : Nat → Code → List It → Option (List It)
  | b, .seq x y, k => match stk t b x (.code b y :: k) with
    | some r => some r
    | none => stk t b y k
  | b, .cond _ x y, k => match stk t b x k with
    | some r => some r
    | none => stk t b y k
  | _, .block i x, k => stk t i x (.blk i :: k)
  | b, .loop x, k => cond (Nat.beq b t) (some (.code b x :: .lp b x :: k)) (stk t b x (.lp b x :: k))
  | _, _, _ => none

noncomputable def FnI.hd (I : FnI) (t : Nat) (fr : Fr) : Option Fr := I.T ((stk t 0 I.code []).getD []) fr

noncomputable def FnI.gd (I : FnI) (t n : Nat) (l : List (Nat × FV)) (r : List (Nat × Reg)) : Option Fr := match (stk t 0 I.code []).getD [] with
  | .code b c :: k => I.GF b c k n l r
  | k => I.T k (mkF n l r)

theorem FnI.hd_eq (I : FnI) (t n : Nat) (l : List (Nat × FV)) (r : List (Nat × Reg)) : I.hd t (mkF n l r) = I.gd t n l r := by
  unfold FnI.hd FnI.gd
  split
  · rename_i b c k h
    rw [h, FnI.GF_eq]; exact I.T_eq b c k _
  · rfl

theorem hdEq {I : FnI} {t n : Nat} {l : List (Nat × FV)} {rg : List (Nat × Reg)} {r : Option Fr} (h : I.gd t n l rg = r) : I.hd t (mkF n l rg) = r := (I.hd_eq t n l rg).trans h

def num0 : Nat → List FV → List (Nat × FV)
  | _, [] => []
  | i, v :: l => (i, v) :: num0 (i + 1) l

noncomputable def FnI.run' (I : FnI) (pk : Fr) : Option Fr :=
  cond (pk.regs.all fun p => Nat.blt p.1 I.pre && !p.2.aux) (cond (Nat.ble pk.slots.length I.fn.ntmps) (I.GF 0 I.code [] I.fn.ntmps (num0 0 pk.slots) pk.regs) (I.T [.code 0 I.code] ⟨pk.slots ++ List.replicate (I.fn.ntmps - pk.slots.length) .undef, pk.regs⟩)) none

theorem mkS_nil : ∀ (n i : Nat), mkS i n [] = List.replicate n .undef
  | 0, i => rfl
  | n + 1, i => by simp only [mkS, List.replicate_succ]; rw [mkS_nil n]

theorem mkS_num0 : ∀ (l : List FV) (i n : Nat), l.length ≤ n → mkS i n (num0 i l) = l ++ List.replicate (n - l.length) .undef
  | [], i, n, h => by simp only [num0, mkS_nil]; rfl
  | v :: l, i, 0, h => by simp at h
  | v :: l, i, n + 1, h => by
    simp only [num0, mkS, List.length_cons]
    rw [show Nat.beq i i = true from by simp]
    simp only [cond_true, List.cons_append]
    rw [mkS_num0 l (i + 1) n (by simpa using h), show n + 1 - (l.length + 1) = n - l.length by omega]

theorem FnI.run_eq (I : FnI) (pk : Fr) : I.run pk = I.run' pk := by
  unfold FnI.run FnI.run'
  cases h : Nat.ble pk.slots.length I.fn.ntmps with
  | false => rfl
  | true =>
    have hle := Nat.le_of_ble_eq_true h
    simp only [cond_true, FnI.GF_eq]
    unfold mkF
    rw [mkS_num0 _ 0 _ hle, I.T_eq]

/-- The way to the range over a function in block t. -/
def stkR (t : Nat) : Nat → Code → List It → Option (Nat × List Tmp × Code × Code × List It)
  | b, .seq x y, k => match stkR t b x (.code b y :: k) with
    | some r => some r
    | none => stkR t b y k
  | b, .cond _ x y, k => match stkR t b x k with
    | some r => some r
    | none => stkR t b y k
  | _, .block i x, k => stkR t i x (.blk i :: k)
  | b, .loop x, k => stkR t b x (.lp b x :: k)
  | b, .rangeFunc _ ps asg body, k => cond (Nat.beq b t) (some (b, ps.toList, asg, body, k)) none
  | _, _, _ => none

/-- What is left to do ahead of a round of a range over a function: rem is what is still to be handed over. -/
noncomputable def FnI.hdR (I : FnI) (t : Nat) (rem : List (List FV)) (fr : Fr) : Option Fr := match stkR t 0 I.code [] with
  | some (b, ps, asg, body, k) => I.T (.rg b ps asg body rem :: k) fr
  | none => none

noncomputable def FnI.H (I : FnI) : List It → Ex → Fr → Option Fr := fun k e fr => match e with | .normal => I.T k fr | e => Ev.T I.E I.C I.pre I.F k e fr

theorem FnI.H_eq (I : FnI) : I.H = Ev.T I.E I.C I.pre I.F := by
  funext k e fr
  cases e <;> rfl

/-- The end of the range: on with the rest. -/
noncomputable def FnI.KF (I : FnI) (k : List It) (n : Nat) (l : List (Nat × FV)) (r : List (Nat × Reg)) : Option Fr :=
  cond (ascB 0 l) (mkTK l .leaf fun t => contSQ I.E I.C I.pre I.FQ I.H k .normal ⟨n, t, r⟩) (contS I.E I.C I.pre I.F I.H k .normal (mkF n l r))

theorem FnI.KF_eq (I : FnI) (k : List It) (n : Nat) (l : List (Nat × FV)) (r : List (Nat × Reg)) : I.KF k n l r = I.T k (mkF n l r) := by
  have h2 : contS I.E I.C I.pre I.F I.H k .normal (mkF n l r) = I.T k (mkF n l r) := by rw [I.H_eq]; exact contS_T k _ _
  unfold FnI.KF
  cases h : ascB 0 l with
  | false => exact h2
  | true =>
    simp only [cond_true, mkTK_eq]
    have h3 := contSQ_eq (E := I.E) (C := I.C) (pre := I.pre) (F := I.FQ) (F' := I.F) (H := I.H) (fun e q => finQ_eq _ _ _ _ e q) k .normal ⟨n, mkT l .leaf, r⟩
    rw [mkF_to n l r h] at h2
    rw [mkF_to n l r h]
    exact h3.trans h2

theorem putS_len : ∀ (ps : List Tmp) (l : List FV) (s : List FV), (putS s ps l).length = s.length
  | [], l, s => by cases l <;> rfl
  | p :: ps, [], s => rfl
  | p :: ps, v :: l, s => by simp only [putS]; rw [putS_len ps l]; simp

noncomputable def FnI.gdR (I : FnI) (t : Nat) (rem : List (List FV)) (n : Nat) (l : List (Nat × FV)) (rg : List (Nat × Reg)) : Option Fr := match stkR t 0 I.code [] with
  | some (b, ps, asg, body, k) => cond (noAux rg) (match rem with
    | [] => I.KF k n l rg
    | v :: rem => I.GF b asg (.rb b body :: .re b (mkS 0 n l) ps asg body rem :: k) (putS (mkS 0 n l) ps v).length (num0 0 (putS (mkS 0 n l) ps v)) rg) none
  | none => none

theorem FnI.hdR_eq (I : FnI) (t : Nat) (rem : List (List FV)) (n : Nat) (l : List (Nat × FV)) (rg : List (Nat × Reg)) : I.hdR t rem (mkF n l rg) = I.gdR t rem n l rg := by
  unfold FnI.hdR FnI.gdR
  cases h : stkR t 0 I.code [] with
  | none => rfl
  | some x =>
    obtain ⟨b, ps, asg, body, k⟩ := x
    simp only
    unfold FnI.T
    rw [T_step]
    cases rem with
    | nil =>
      simp only [stepF]
      rw [FnI.KF_eq]; rfl
    | cons v rem =>
      simp only [stepF]
      rw [FnI.GF_eq, ← I.T_eq]
      have : mkF (putS (mkS 0 n l) ps v).length (num0 0 (putS (mkS 0 n l) ps v)) rg = ⟨putS (mkF n l rg).slots ps v, (mkF n l rg).regs⟩ := by
        unfold mkF
        rw [mkS_num0 _ 0 _ (Nat.le_refl _)]
        simp
      rw [this]; rfl

theorem hdREq {I : FnI} {t : Nat} {rem : List (List FV)} {n : Nat} {l : List (Nat × FV)} {rg : List (Nat × Reg)} {r : Option Fr} (h : I.gdR t rem n l rg = r) : I.hdR t rem (mkF n l rg) = r := (I.hdR_eq t rem n l rg).trans h

theorem enters_of {P : Program} {f : FuncId} {fn : Func} {c : Code} (hf : P.funcs[f]? = some fn) (hb : fn.body = some c) (hn : (fn.name == "runtime.NumGoroutine") = false) : Enters P f := by
  intro args w
  have : fn.name ≠ "runtime.NumGoroutine" := by simpa using hn
  simp [callFunc, hf, hb, this]

/-! ### contracts -/
@[reducible] def Tup : List Tc → Type
  | [] => Unit
  | t :: ts => t.den × Tup ts

def undats : (ts : List Tc) → Tup ts → List FV
  | [], _ => []
  | t :: ts, x => .dat t x.1 :: undats ts x.2

def dats : (ts : List Tc) → List FV → Option (Tup ts)
  | [], [] => some ()
  | t :: ts, .dat t' x :: l => if h : t' = t then (dats ts l).map fun y => (h ▸ x, y) else none
  | _, _ => none

theorem dats_some : ∀ (ts : List Tc) (l : List FV) (x : Tup ts), dats ts l = some x → l = undats ts x
  | [], [], x, h => rfl
  | [], _ :: _, x, h => by simp [dats] at h
  | t :: ts, [], x, h => by simp [dats] at h
  | t :: ts, v :: l, x, h => by
    cases v with
    | dat t' y =>
      simp only [dats] at h
      split at h
      · rename_i e
        subst e
        cases hd : dats ts l with
        | none => rw [hd] at h; cases h
        | some z =>
          rw [hd] at h
          simp only [Option.map_some, Option.some.injEq] at h
          subst h
          simp only [undats, dats_some ts l z hd]
      · cases h
    | _ => simp [dats] at h

/-! ### frames with holes (.undef) for closed data -/
mutual
def matchV : FV → FV → Option (List FV)
  | .undef, v => match v with
    | .dat t x => some [.dat t x]
    | _ => none
  | .ptr k o, v => match v with
    | .ptr k' o' => cond (Nat.beq k k' && Nat.beq o o') (some []) none
    | _ => none
  | .slc k, v => match v with
    | .slc k' => cond (Nat.beq k k') (some []) none
    | _ => none
  | .mp k, v => match v with
    | .mp k' => cond (Nat.beq k k') (some []) none
    | _ => none
  | .nil0, v => match v with
    | .nil0 => some []
    | _ => none
  | .nilp, v => match v with
    | .nilp => some []
    | _ => none
  | .nilm, v => match v with
    | .nilm => some []
    | _ => none
  | .nilf, v => match v with
    | .nilf => some []
    | _ => none
  | .nili, v => match v with
    | .nili => some []
    | _ => none
  | .agg l, v => match v with
    | .agg l' => matchL l l'
    | _ => none
  | .clos f l, v => match v with
    | .clos f' l' => cond (Nat.beq f f') (matchL l l') none
    | _ => none
  | _, _ => none
def matchL : List FV → List FV → Option (List FV)
  | [], l => match l with
    | [] => some []
    | _ => none
  | p :: ps, l => match l with
    | [] => none
    | v :: l => match matchV p v with
      | some a => match matchL ps l with
        | some b => some (a ++ b)
        | none => none
      | none => none
end

mutual
def fillV : FV → List FV → FV × List FV
  | .undef, hs => match hs with
    | h :: hs => (h, hs)
    | [] => (.undef, [])
  | .agg l, hs => (.agg (fillL l hs).1, (fillL l hs).2)
  | .clos f l, hs => (.clos f (fillL l hs).1, (fillL l hs).2)
  | v, hs => (v, hs)
def fillL : List FV → List FV → List FV × List FV
  | [], hs => ([], hs)
  | p :: ps, hs => ((fillV p hs).1 :: (fillL ps (fillV p hs).2).1, (fillL ps (fillV p hs).2).2)
end

def matchR : Reg → Reg → Option (List FV)
  | .box l, r => match r with
    | .box l' => matchL l l'
    | _ => none
  | .arr t _, r => match r with
    | .arr t' xs => if t = t' then some [.dat (.slice t') xs] else none
    | _ => none
  | .frz t _, r => match r with
    | .frz t' xs => if t = t' then some [.dat (.slice t') xs] else none
    | _ => none
  | .map a b _, r => match r with
    | .map a' b' xs => if a = a' ∧ b = b' then some [.dat (.slice (.pair a' b')) xs] else none
    | _ => none
  | _, _ => none

def fillR : Reg → List FV → Reg × List FV
  | .box l, hs => (.box (fillL l hs).1, (fillL l hs).2)
  | .arr t xs, hs => match hs with
    | .dat (.slice t') ys :: hs => (.arr t' ys, hs)
    | _ => (.arr t xs, hs)
  | .frz t xs, hs => match hs with
    | .dat (.slice t') ys :: hs => (.frz t' ys, hs)
    | _ => (.frz t xs, hs)
  | .map a b xs, hs => match hs with
    | .dat (.slice (.pair a' b')) ys :: hs => (.map a' b' ys, hs)
    | _ => (.map a b xs, hs)
  | r, hs => (r, hs)

def matchRs : List (Nat × Reg) → List (Nat × Reg) → Option (List FV)
  | [], l => match l with
    | [] => some []
    | _ => none
  | (i, p) :: ps, l => match l with
    | [] => none
    | (j, r) :: l => cond (Nat.beq i j) (match matchR p r with
      | some a => match matchRs ps l with
        | some b => some (a ++ b)
        | none => none
      | none => none) none

def fillRs : List (Nat × Reg) → List FV → List (Nat × Reg)
  | [], _ => []
  | (i, p) :: ps, hs => (i, (fillR p hs).1) :: fillRs ps (fillR p hs).2

def matchF (p fr : Fr) : Option (List FV) := match matchL p.slots fr.slots with
  | some a => match matchRs p.regs fr.regs with
    | some b => some (a ++ b)
    | none => none
  | none => none

def fillF (p : Fr) (hs : List FV) : Fr := ⟨(fillL p.slots hs).1, fillRs p.regs (fillL p.slots hs).2⟩

theorem beq_ok {a b : Nat} (h : Nat.beq a b = true) : a = b := Nat.eq_of_beq_eq_true h

mutual
theorem fillV_match : ∀ (p v : FV) (hs rest : List FV), matchV p v = some hs → fillV p (hs ++ rest) = (v, rest)
  | .undef, v, hs, rest, h => by
    cases v <;> simp only [matchV] at h <;> first | (cases h; done) | skip
    cases h; rfl
  | .ptr k o, v, hs, rest, h => by
    cases v <;> simp only [matchV] at h <;> first | (cases h; done) | skip
    rename_i k' o'
    cases hb : (Nat.beq k k' && Nat.beq o o') with
    | false => rw [hb] at h; cases h
    | true =>
      rw [hb] at h
      simp only [Bool.and_eq_true] at hb
      rw [beq_ok hb.1, beq_ok hb.2]
      cases h; rfl
  | .slc k, v, hs, rest, h => by
    cases v <;> simp only [matchV] at h <;> first | (cases h; done) | skip
    rename_i k'
    cases hb : Nat.beq k k' with
    | false => rw [hb] at h; cases h
    | true => rw [hb] at h; rw [beq_ok hb]; cases h; rfl
  | .mp k, v, hs, rest, h => by
    cases v <;> simp only [matchV] at h <;> first | (cases h; done) | skip
    rename_i k'
    cases hb : Nat.beq k k' with
    | false => rw [hb] at h; cases h
    | true => rw [hb] at h; rw [beq_ok hb]; cases h; rfl
  | .nil0, v, hs, rest, h => by
    cases v <;> simp only [matchV] at h <;> first | (cases h; done) | skip
    cases h; rfl
  | .nilp, v, hs, rest, h => by
    cases v <;> simp only [matchV] at h <;> first | (cases h; done) | skip
    cases h; rfl
  | .nilm, v, hs, rest, h => by
    cases v <;> simp only [matchV] at h <;> first | (cases h; done) | skip
    cases h; rfl
  | .nilf, v, hs, rest, h => by
    cases v <;> simp only [matchV] at h <;> first | (cases h; done) | skip
    cases h; rfl
  | .nili, v, hs, rest, h => by
    cases v <;> simp only [matchV] at h <;> first | (cases h; done) | skip
    cases h; rfl
  | .agg l, v, hs, rest, h => by
    cases v <;> simp only [matchV] at h <;> first | (cases h; done) | skip
    simp only [fillV, fillL_match l _ hs rest h]
  | .clos f l, v, hs, rest, h => by
    cases v <;> simp only [matchV] at h <;> first | (cases h; done) | skip
    rename_i f' l'
    cases hb : Nat.beq f f' with
    | false => rw [hb] at h; cases h
    | true =>
      rw [hb] at h
      rw [beq_ok hb]
      simp only [fillV, fillL_match l _ hs rest h]
  | .skp, v, hs, rest, h => by simp [matchV] at h
  | .ub, v, hs, rest, h => by simp [matchV] at h
  | .dat t x, v, hs, rest, h => by simp [matchV] at h
  | .ep k i o, v, hs, rest, h => by simp [matchV] at h
  | .fp t x, v, hs, rest, h => by simp [matchV] at h
  | .tup l, v, hs, rest, h => by simp [matchV] at h
theorem fillL_match : ∀ (p l : List FV) (hs rest : List FV), matchL p l = some hs → fillL p (hs ++ rest) = (l, rest)
  | [], l, hs, rest, h => by
    cases l <;> simp only [matchL] at h <;> first | (cases h; done) | skip
    cases h; rfl
  | p :: ps, l, hs, rest, h => by
    cases l with
    | nil => simp [matchL] at h
    | cons v l =>
      simp only [matchL] at h
      cases hv : matchV p v with
      | none => rw [hv] at h; cases h
      | some a =>
        rw [hv] at h
        cases hl : matchL ps l with
        | none => rw [hl] at h; cases h
        | some b =>
          rw [hl] at h
          cases h
          simp only [fillL, List.append_assoc, fillV_match p v a (b ++ rest) hv, fillL_match ps l b rest hl]
end

theorem fillR_match (p r : Reg) (hs rest : List FV) (h : matchR p r = some hs) : fillR p (hs ++ rest) = (r, rest) := by
  cases p with
  | box l =>
    cases r <;> simp only [matchR] at h <;> first | (cases h; done) | skip
    simp only [fillR, fillL_match l _ hs rest h]
  | arr t xs =>
    cases r <;> simp only [matchR] at h <;> first | (cases h; done) | skip
    split at h
    · cases h; rfl
    · cases h
  | frz t xs =>
    cases r <;> simp only [matchR] at h <;> first | (cases h; done) | skip
    split at h
    · cases h; rfl
    · cases h
  | map a b xs =>
    cases r <;> simp only [matchR] at h <;> first | (cases h; done) | skip
    split at h
    · cases h; rfl
    · cases h
  | abs => simp [matchR] at h
  | dead => simp [matchR] at h
  | fwd _ => simp [matchR] at h
  | mit _ _ _ _ _ _ _ => simp [matchR] at h

theorem fillRs_match : ∀ (p l : List (Nat × Reg)) (hs rest : List FV), matchRs p l = some hs → fillRs p (hs ++ rest) = l
  | [], l, hs, rest, h => by
    cases l <;> simp only [matchRs] at h <;> first | (cases h; done) | rfl
  | (i, p) :: ps, l, hs, rest, h => by
    cases l with
    | nil => simp [matchRs] at h
    | cons q l =>
      obtain ⟨j, r⟩ := q
      simp only [matchRs] at h
      cases hb : Nat.beq i j with
      | false => rw [hb] at h; cases h
      | true =>
        rw [hb] at h
        simp only [cond_true] at h
        cases hv : matchR p r with
        | none => rw [hv] at h; cases h
        | some a =>
          rw [hv] at h
          cases hl : matchRs ps l with
          | none => rw [hl] at h; cases h
          | some b =>
            rw [hl] at h
            cases h
            rw [beq_ok hb]
            simp only [fillRs, List.append_assoc, fillR_match p r a (b ++ rest) hv, fillRs_match ps l b rest hl]

theorem fillF_match {p fr : Fr} {hs : List FV} (h : matchF p fr = some hs) : fr = fillF p hs := by
  unfold matchF at h
  cases h1 : matchL p.slots fr.slots with
  | none => rw [h1] at h; cases h
  | some a =>
    rw [h1] at h
    cases h2 : matchRs p.regs fr.regs with
    | none => rw [h2] at h; cases h
    | some b =>
      rw [h2] at h
      cases h
      unfold fillF
      rw [fillL_match _ _ a b h1]
      have := fillRs_match _ _ b [] h2
      rw [List.append_nil] at this
      simp only [this]

/-- A contract: on frames of a form. -/
def genS (md : List Bool) (ret : Bool) (pat : Fr) (ts : List Tc) (ok : Tup ts → Bool) (out : Tup ts → Fr) : Spec where
  md := md
  ret := ret
  ok := fun pk => match matchF pat pk with
    | some hs => match dats ts hs with
      | some x => ok x
      | none => false
    | none => false
  fn := fun pk => match matchF pat pk with
    | some hs => match dats ts hs with
      | some x => some (out x)
      | none => none
    | none => none

theorem gen_of {P : Program} {G : (Nat → Prop) → Array Obj → Prop} {f : FuncId} {md : List Bool} {ret : Bool} {pat : Fr} {ts : List Tc} {ok : Tup ts → Bool} {out : Tup ts → Fr} (R : Fr → Fr → Prop)
    (h : ∀ x, ok x = true → R (fillF pat (undats ts x)) (out x)) : ∀ pk o, (genS md ret pat ts ok out).ok pk = true → (genS md ret pat ts ok out).fn pk = some o → R pk o := by
  intro pk o hok hout
  simp only [genS] at hok hout
  cases hm : matchF pat pk with
  | none => rw [hm] at hok; cases hok
  | some hs =>
    rw [hm] at hok hout
    simp only at hok hout
    cases hd : dats ts hs with
    | none => rw [hd] at hok; cases hok
    | some x =>
      rw [hd] at hok hout
      simp only [Option.some.injEq] at hok hout
      have e1 := fillF_match hm
      have e2 := dats_some ts hs x hd
      rw [e1, e2, ← hout]
      exact h x hok

theorem gen_sound {P : Program} (I : FnI) (hE : EnvOk P I.E) (hm : P.follows .mixedOrders = true) {f : FuncId} (hf : P.funcs[f]? = some I.fn) (hbody : I.fn.body = some I.code)
    (hn : (I.fn.name == "runtime.NumGoroutine") = false) {md : List Bool} {ret : Bool} {pat : Fr} {ts : List Tc} {ok : Tup ts → Bool} {out : Tup ts → Fr}
    (h : ∀ x, ok x = true → I.run (fillF pat (undats ts x)) = some (out x)) : Sound P I.E.gl f (genS md ret pat ts ok out) ∧ Enters P f :=
  ⟨I.sound hE hm hf hbody (gen_of (P := P) (G := I.E.gl) (f := f) (fun pk o => I.run pk = some o) h), enters_of hf hbody hn⟩

/-- Two contracts of one function. -/
def orS (s1 s2 : Spec) : Spec := ⟨s1.md, s1.ret, fun pk => s1.ok pk || s2.ok pk, fun pk => cond (s1.ok pk) (s1.fn pk) (s2.fn pk)⟩

theorem or_sound {P : Program} {G : (Nat → Prop) → Array Obj → Prop} {f : FuncId} {s1 s2 : Spec} (h1 : Sound P G f s1) (h2 : Sound P G f s2) : Sound P G f (orS s1 s2) := by
  intro pk out hok hout
  simp only [orS] at hok hout
  cases hb : s1.ok pk with
  | true => rw [hb] at hout; exact h1 pk out hb hout
  | false =>
    rw [hb] at hok hout
    exact h2 pk out (by simpa using hok) hout

theorem omap_cond {α β : Type} (q : Bool) (a b : Option α) (f : α → β) : (cond q a b).map f = cond q (a.map f) (b.map f) := by cases q <;> rfl
theorem fst_cond {α β : Type} (q : Bool) (a b : α × β) : (cond q a b).1 = cond q a.1 b.1 := by cases q <;> rfl
theorem snd_cond {α β : Type} (q : Bool) (a b : α × β) : (cond q a b).2 = cond q a.2 b.2 := by cases q <;> rfl

/-! ### what is known of a program -/
def ttOf : List (Nat × TI) → Nat → Option TI
  | [], _ => none
  | (i, t) :: l, k => cond (Nat.beq i k) (some t) (ttOf l k)

theorem ttOf_mem : ∀ (l : List (Nat × TI)) (k : Nat) (t : TI), ttOf l k = some t → (k, t) ∈ l
  | [], k, t, h => by cases h
  | (i, x) :: l, k, t, h => by
    simp only [ttOf] at h
    cases hb : Nat.beq i k with
    | true =>
      rw [hb] at h
      have := Nat.eq_of_beq_eq_true hb
      cases h; subst this; simp
    | false => rw [hb] at h; exact List.mem_cons_of_mem _ (ttOf_mem l k t h)

def Env.add (E : Env) (f : FuncId) (s : Spec) : Env := ⟨E.tt, fun g => cond (Nat.beq g f) (some s) (E.fs g), E.gl, E.it⟩

theorem all_okTI {P : Program} {l : List (Nat × TI)} (h : (l.all fun p => okTI P p.1 p.2) = true) {t : Nat} {ti : TI} (hm : (t, ti) ∈ l) : okTI P t ti = true := List.all_eq_true.1 h (t, ti) hm

theorem env_nil {P : Program} {l : List (Nat × TI)} (h : (l.all fun p => okTI P p.1 p.2) = true) : EnvOk P ⟨ttOf l, fun _ => none, fun _ _ => True, fun _ => none⟩ :=
  ⟨fun t ti ht => okTI_spec (all_okTI h (ttOf_mem l t ti ht)), (fun f s hs => by cases hs), fun _ _ _ _ _ _ => trivial, (fun g t hg => by cases hg)⟩

theorem env_add {P : Program} {E : Env} (hE : EnvOk P E) {f : FuncId} {s : Spec} (h : Sound P E.gl f s ∧ Enters P f) : EnvOk P (E.add f s) :=
  ⟨hE.tts, fun g t ht => by
    simp only [Env.add] at ht
    cases hb : Nat.beq g f with
    | true =>
      rw [hb] at ht
      have := Nat.eq_of_beq_eq_true hb
      cases ht; subst this; exact h
    | false => rw [hb] at ht; exact hE.fss g t ht, hE.gm, hE.its⟩

/-- A function that hands over the elements of a slice is made known. -/
def Env.addIt (E : Env) (f : FuncId) (t : Tc) : Env := ⟨E.tt, E.fs, E.gl, fun g => cond (Nat.beq g f) (some t) (E.it g)⟩

theorem env_it {P : Program} {E : Env} (hE : EnvOk P E) {f : FuncId} {t : Tc} (h : BackOK P f t ∧ Enters P f) : EnvOk P (E.addIt f t) :=
  ⟨hE.tts, hE.fss, hE.gm, fun g s hs => by
    simp only [Env.addIt] at hs
    cases hb : Nat.beq g f with
    | true =>
      rw [hb] at hs
      have := Nat.eq_of_beq_eq_true hb
      cases hs; subst this; exact h
    | false => rw [hb] at hs; exact hE.its g s hs⟩

theorem env_or {P : Program} {E : Env} (hE : EnvOk P E) {f : FuncId} {s1 s2 : Spec} (h1 : E.fs f = some s1) (h : Sound P E.gl f s2 ∧ Enters P f) : EnvOk P (E.add f (orS s1 s2)) :=
  env_add hE ⟨or_sound (hE.fss f s1 h1).1 h.1, h.2⟩

end Go.Ev

set_option linter.unusedSimpArgs false
set_option linter.unusedVariables false
namespace Go.Ev
open Go

/-! ### numbers of loops -/
theorem dlt {i n : Nat} (h : i < n) : decide ((i : Int) < (n : Int)) = true := by simp; omega
theorem dlt_not {i n : Nat} (h : n ≤ i) : decide ((i : Int) < (n : Int)) = false := by simp; omega
theorem dle0 (i : Nat) : decide ((0 : Int) ≤ (i : Int)) = true := by simp
theorem wrap_in {x : Int} (h1 : -9223372036854775808 ≤ x) (h2 : x ≤ 9223372036854775807) : wrap .i64 x = x := by
  unfold wrap; rw [IntKind.wrap_i64]; omega
theorem wsucc {i : Nat} (h : i ≤ 4611686018427387904) : wrap .i64 ((i : Int) + 1) = ((i + 1 : Nat) : Int) := by
  rw [wrap_in (by omega) (by omega)]; simp
theorem wrap_range (x : Int) : -9223372036854775808 ≤ wrap .i64 x ∧ wrap .i64 x ≤ 9223372036854775807 := by
  unfold wrap; rw [IntKind.wrap_i64]; omega
theorem getN {α : Type} (xs : List α) (i : Nat) (d : α) (h : i < xs.length) : List.getD xs (Int.toNat (i : Int)) d = xs[i] := by
  rw [Int.toNat_natCast, List.getD_eq_getElem?_getD, List.getElem?_eq_getElem h]; rfl
theorem getI {α : Type} (xs : List α) (i : Int) (d : α) (h0 : 0 ≤ i) (h : i.toNat < xs.length) : List.getD xs (Int.toNat i) d = xs[i.toNat] := by
  rw [List.getD_eq_getElem?_getD, List.getElem?_eq_getElem h]; rfl
theorem dcons {α : Type} {xs : List α} {i : Nat} (h : i < xs.length) : xs.drop i = xs[i] :: xs.drop (i + 1) := List.drop_eq_getElem_cons h
theorem dnil {α : Type} {xs : List α} {i : Nat} (h : xs.length ≤ i) : xs.drop i = [] := List.drop_eq_nil_of_le h
theorem condT {α : Type} {q : Bool} {a b : α} (h : q = true) : cond q a b = a := by rw [h]; rfl
theorem condF {α : Type} {q : Bool} {a b : α} (h : q = false) : cond q a b = b := by rw [h]; rfl
/-- A condition of which both ways lead to one result. -/
theorem condB {α : Type} {q : Bool} {a b c : α} (h1 : q = true → a = c) (h2 : q = false → b = c) : cond q a b = c := by
  cases q
  · exact h2 rfl
  · exact h1 rfl

/-! ### that a run ends -/
def Ends (Q : Fr → Prop) (o : Option Fr) : Prop := ∃ f, o = some f ∧ Q f
theorem ends_some {Q : Fr → Prop} {f : Fr} (h : Q f) : Ends Q (some f) := ⟨f, rfl, h⟩
theorem ends_cond {Q : Fr → Prop} {c : Bool} {a b : Option Fr} (h1 : c = true → Ends Q a) (h2 : c = false → Ends Q b) : Ends Q (cond c a b) := by
  cases c
  · exact h2 rfl
  · exact h1 rfl
theorem ends_if {Q : Fr → Prop} {c : Bool} {a : Option Fr} (h : c = true) (h2 : Ends Q a) : Ends Q (cond c a none) := by rw [h]; exact h2
theorem ends_mono {Q R : Fr → Prop} {o : Option Fr} (h : Ends Q o) (hm : ∀ f, Q f → R f) : Ends R o := by
  obtain ⟨f, h1, h2⟩ := h
  exact ⟨f, h1, hm f h2⟩
theorem dT {p : Prop} [Decidable p] (h : p) : decide p = true := by simp [h]
theorem dF {p : Prop} [Decidable p] (h : ¬ p) : decide p = false := by simp [h]

end Go.Ev

set_option linter.unusedVariables false
set_option linter.unusedSimpArgs false
set_option maxRecDepth 100000
namespace Go.Ev.Y
open Go Go.Ev

abbrev tPrgm : Tc := (.st (.pair (.slice (.st (.pair .str (.pair .str (.pair tI (.slice .str)))))) (.pair tI (.pair tI (.pair tI tI)))))
abbrev Prgm : Type := (List (Bytes × (Bytes × (Int × (List Bytes))))) × (Int × (Int × (Int × Int)))
abbrev tWindow : Tc := (.st (.pair tI tI))
abbrev Window : Type := Int × Int
abbrev tTimed : Tc := (.st (.pair .str (.st (.pair tI tI))))
abbrev Timed : Type := Bytes × (Int × Int)
abbrev tItem : Tc := (.st (.pair .str (.pair .str (.pair tI (.slice .str)))))
abbrev Item : Type := Bytes × (Bytes × (Int × (List Bytes)))
/-! ### the stream of numbers, and small things -/
def outside (n lo hi : Int) : Bool := decide (n < lo) || decide (n > hi)
def inR (n lo hi : Int) : Bool := decide (lo ≤ n) && decide (n ≤ hi)
def below (x n : Int) : Int := cond (decide (n < 1)) 0 (cond (decide (x.tmod n < 0)) (wrap .i64 (x.tmod n + n)) (x.tmod n))
def idxGo (x : Int) : List Int → Nat → Int
  | [], _ => -1
  | y :: l, i => cond (x == y) (i : Int) (idxGo x l (i + 1))
def indexI (l : List Int) (x : Int) : Int := idxGo x l 0
def containsI (l : List Int) (x : Int) : Bool := decide (indexI l x ≥ 0)
def mx (a b : Int) : Int := if a < b then b else a
def equalI (a b : List Int) : Bool := a == b
def atOk (k at_ : Int) : Bool := decide (0 ≤ at_) && decide (at_ + k ≤ 1099511627776)
def nextAt (at_ : Int) : Int := wrap .i64 (at_ + 1)
def rawNext (L : List Int) (at_ : Int) : Int := cond ((L.length : Int) == 0) (wrap .i64 (wrap .i64 (at_ + 1) * 7919))
  (wrap .i64 (below (L.getD (Int.toNat (Int.tmod at_ L.length)) (Tc.dflt tI)) 1073741824 + wrap .i64 (wrap .i64 (Int.tdiv at_ L.length) * wrap .i64 (7919 + Int.tmod at_ L.length))))
def next (L : List Int) (at_ n : Int) : Int := below (rawNext L at_) n
def pick (L : List Int) (at_ : Int) (l : List Int) : Int := l.getD (Int.toNat (next L at_ l.length)) (Tc.dflt tI)
def rangeAt (at_ lo hi : Int) : Int := cond (decide (hi < lo)) at_ (nextAt at_)
def rangeS (L : List Int) (at_ lo hi : Int) : Int := cond (decide (hi < lo)) lo (wrap .i64 (lo + next L at_ (wrap .i64 (wrap .i64 (hi - lo) + 1))))
def oddL (lo hi : Int) : List Int := [wrap .i64 (lo - 1), wrap .i64 (hi + 1), lo, hi, -1099511627776, 1099511627776]
def oddS (L : List Int) (at_ lo hi : Int) : Int × Int := cond (next L at_ 12 == 0) (nextAt (nextAt at_), pick L (nextAt at_) (oddL lo hi)) (rangeAt (nextAt at_) lo hi, rangeS L (nextAt at_) lo hi)
def some_ (L : List Int) (at_ : Int) (l : List Bytes) : Bytes := l.getD (Int.toNat (next L at_ l.length)) (Tc.dflt .str)
def idxBy {α : Type} (p : α → Bool) : List α → Nat → Int
  | [], _ => -1
  | x :: l, i => cond (p x) (i : Int) (idxBy p l (i + 1))
def indexB (s : Bytes) (c : Int) : Int := Lib.indexByte s c.toNat.toUInt8
def trimB (s cs : Bytes) : Bytes := Lib.trimS s cs
def trimOk (s cs : Bytes) : Bool := decide (s.length ≤ 1000000) && decide (cs.length ≤ 1000) && cs.all fun b => decide (b.toNat < 128)
def smallsB : Bytes := [97, 98, 99, 100, 101, 102, 103, 104, 105, 106, 107, 108, 109, 110, 111, 112, 113, 114, 115, 116, 117, 118, 119, 120, 121, 122]
def keyB : Bytes := [97, 98, 99, 100, 101, 102, 103, 104, 105, 106, 107, 108, 109, 110, 111, 112, 113, 114, 115, 116, 117, 118, 119, 120, 121, 122, 48, 49, 50, 51, 52, 53, 54, 55, 56, 57, 45, 95]
def isKey (s : Bytes) : Bool := !(s == []) && decide ((s.length : Int) ≤ 40) && decide (indexB smallsB ((s.getD 0 0).toNat : Int) ≥ 0) && (trimB s keyB == [])
def onlyB (s cs : Bytes) : Bool := s.all fun b => !decide (indexB cs (b.toNat : Int) < 0)
def keyR (s : Bytes) : Bool := inR (s.length : Int) 1 40 && onlyB (s.take 1) smallsB && onlyB s keyB
def notAfter (prev : Option Bytes) (p : Bytes) : Bool := match prev with
  | some q => bLess p q || p == q
  | none => false
def risingGo (key : Bytes → Bool) (prev : Option Bytes) : List Bytes → Int
  | [] => 0
  | p :: l => cond (!key p) 5 (cond (notAfter prev p) 7 (risingGo key (some p) l))
def partsF (key : Bytes → Bool) (l : List Bytes) : Int := cond ((l.length : Int) == 0) 8 (cond (decide ((l.length : Int) > 12)) 2 (risingGo key none l))
def itemsGo (key : Bytes → Bool) (pre : List Item) : List Item → Int
  | [] => 0
  | x :: l => cond (!key x.1 || !key x.2.1) 5 (cond (pre.any fun o => o.1 == x.1) 6 (cond (outside x.2.2.1 1 86400000) 1 (cond (partsF key x.2.2.2 != 0) (partsF key x.2.2.2) (itemsGo key (pre ++ [x]) l))))
def checkItems (key : Bytes → Bool) (l : List Item) : Int := cond (decide ((l.length : Int) > 60)) 2 (itemsGo key [] l)
def checkProg (key : Bytes → Bool) (p : Prgm) : Int := cond (checkItems key p.1 != 0) (checkItems key p.1)
  (cond (outside p.2.1 0 86400000 || outside p.2.2.1 0 86400000 || outside p.2.2.2.1 0 86400000 || outside p.2.2.2.2 (-1) (mx (-1) (wrap .i64 ((p.1.length : Int) - 2)))) 1 0)
def gapAt (p : Prgm) (i : Int) (x y : Item) : Int := cond (i == p.2.2.2.2) p.2.2.2.1 (cond (!(x.2.1 == y.2.1)) p.2.1 p.2.2.1)
def behindF (p : Prgm) (i : Int) : Int := gapAt p i (p.1.getD i.toNat (Tc.dflt tItem)) (p.1.getD (i + 1).toNat (Tc.dflt tItem))
def begGo (p : Prgm) : Int → Int → List Item → List Int × Int
  | _, at_, [] => ([], at_)
  | _, at_, [x] => ([at_], wrap .i64 (at_ + x.2.2.1))
  | i, at_, x :: y :: l => (at_ :: (begGo p (i + 1) (wrap .i64 (wrap .i64 (at_ + x.2.2.1) + gapAt p i x y)) (y :: l)).1, (begGo p (i + 1) (wrap .i64 (wrap .i64 (at_ + x.2.2.1) + gapAt p i x y)) (y :: l)).2)
def timGo (p : Prgm) : Int → Int → List Item → List Timed
  | _, _, [] => []
  | _, f, [x] => [(x.1, (f, wrap .i64 (f + x.2.2.1)))]
  | i, f, x :: y :: l => (x.1, (f, wrap .i64 (f + x.2.2.1))) :: timGo p (i + 1) (wrap .i64 (wrap .i64 (f + x.2.2.1) + gapAt p i x y)) (y :: l)
def ttGo (f : Int) : List Int → List Item → List Timed
  | b :: bs, x :: l => (x.1, (wrap .i64 (f + b), wrap .i64 (wrap .i64 (f + b) + x.2.2.1))) :: ttGo f bs l
  | _, _ => []
def chGo (half : Int) : Int → List Item → Int → Int
  | i, x :: y :: l, n => chGo half (i + 1) (y :: l) (cond (i != half && !(x.2.1 == y.2.1)) (wrap .i64 (n + 1)) n)
  | _, _, n => n
def isMom (n : Int) : Bool := !outside n 0 345686399999
def fromF (p : Prgm) (f : Int) : Int := cond (checkProg isKey p != 0) (checkProg isKey p) (cond (!isMom f || decide (wrap .i64 (f + (begGo p 0 0 p.1).2) > 345686400000)) 1 0)
def timetable (p : Prgm) (f : Int) : List Timed × Int := cond (fromF p f != 0) ([], fromF p f) (ttGo f (begGo p 0 0 p.1).1 p.1, 0)
def longP (p : Prgm) : Int × Int := cond (checkProg isKey p != 0) (0, checkProg isKey p) ((begGo p 0 0 p.1).2, 0)
def changes (p : Prgm) : Int × Int := cond (checkProg isKey p != 0) (0, checkProg isKey p) (chGo p.2.2.2.2 0 p.1 0, 0)
def longR (p : Prgm) : Int := match (timGo p 0 0 p.1).getLast? with
  | some t => t.2.2
  | none => 0
def beginF (p : Prgm) (f : Int) : Int := cond (!inR f 0 345686399999 || decide (wrap .i64 (f + longR p) > 345686400000)) 1 0
def firstE : List Int → Int
  | [] => 0
  | e :: l => cond (!(e == 0)) e (firstE l)
def cmpI (x y : Int) : Int := cond (decide (x < y)) (-1) (cond (decide (x > y)) 1 0)
def cmpGo : List Int → List Int → Int
  | [], [] => 0
  | [], _ :: _ => -1
  | _ :: _, [] => 1
  | x :: l, y :: m => cond (!(cmpI x y == 0)) (cmpI x y) (cmpGo l m)
def swapG {α : Type} (l : List α) (j : Nat) : List α := match l[j]?, l[j + 1]? with
  | some a, some b => (l.set (j + 1) a).set j b
  | _, _ => l
def ltG {α : Type} (lt : α → α → Bool) (l : List α) (j : Nat) : Bool := match l[j + 1]?, l[j]? with
  | some b, some a => lt b a
  | _, _ => false
def sinkG {α : Type} (lt : α → α → Bool) : Nat → List α → List α
  | 0, l => l
  | j + 1, l => cond (ltG lt l j) (sinkG lt j (swapG l j)) l
def sortGoG {α : Type} (lt : α → α → Bool) : Nat → Nat → List α → List α
  | 0, _, l => l
  | m + 1, i, l => sortGoG lt m (i + 1) (sinkG lt i l)
def sortG {α : Type} (lt : α → α → Bool) (l : List α) : List α := sortGoG lt (l.length - 1) 1 l
def bitS (set : Int) (i : Nat) : Bool := (wrap .i64 ((BitVec.ofInt (IntKind.bits .i64) (Int.fdiv set (2 ^ (min (Int.toNat (i : Int)) (IntKind.bits .i64)))) &&& BitVec.ofInt (IntKind.bits .i64) (1 : Int)).toNat : Int)) == (1 : Int)
def selI (set : Int) : List Item → Nat → List Item
  | [], _ => []
  | x :: l, i => cond (bitS set i) (x :: selI set l (i + 1)) (selI set l (i + 1))
def selP (set : Int) : List Item → Nat → List Int
  | [], _ => []
  | _ :: l, i => cond (bitS set i) ((i : Int) :: selP set l (i + 1)) (selP set l (i + 1))
def alone (p : Prgm) (its : List Item) : Prgm := (its, (p.2.1, (p.2.2.1, (p.2.2.2.1, -1))))
def fitL (p : Prgm) (its : List Item) : Int := (begGo (alone p its) 0 0 its).2
def fitB (best : List Int) (longest most : Int) (pl : List Int) (long : Int) : Bool := decide (long ≤ most) && (decide (best.length < pl.length) || (decide (pl.length = best.length) && (decide (long > longest) || (long == longest && decide (cmpGo pl best < 0)))))
def fitGo (p : Prgm) (most : Int) : Nat → Nat → List Int → Int → List Int
  | 0, _, best, _ => best
  | m + 1, set, best, longest => cond (fitB best longest most (selP set p.1 0) (fitL p (selI set p.1 0))) (fitGo p most m (set + 1) (selP set p.1 0) (fitL p (selI set p.1 0))) (fitGo p most m (set + 1) best longest)
def keyAt (xs : List Item) (i : Int) : Bytes := (xs.getD i.toNat (Tc.dflt tItem)).1
def fitR (p : Prgm) (most : Int) : List Bytes := (fitGo p most (2 ^ p.1.length) 0 [] 0).map (keyAt p.1)
def fitF (p : Prgm) (most : Int) : List Bytes × Int := cond (checkProg isKey p != 0) ([], checkProg isKey p) (cond (outside most 0 5184000000) ([], 1) (fitR p most, 0))
def lastI (p : Prgm) : Item := p.1.getD (p.1.length - 1) (Tc.dflt tItem)
def encL (p : Prgm) (x : Item) : Int := cond (!(x.2.1 == (lastI p).2.1)) (wrap .i64 (x.2.2.1 + p.2.1)) (wrap .i64 (x.2.2.1 + p.2.2.1))
def encLt (p : Prgm) (x y : Item) : Bool := decide (wrap .i64 (encL p y - encL p x) < 0)
def encR (p : Prgm) (left : Int) : List Bytes := (sortG (encLt p) (p.1.filter fun x => !decide (encL p x > left))).map fun o => o.1
def encF (p : Prgm) (left : Int) : List Bytes × Int := cond (checkProg isKey p != 0) ([], checkProg isKey p) (cond (outside left 0 86400000) ([], 1) (cond ((p.1.length : Int) == 0) ([], 8) (encR p left, 0)))
def idxS (x : Bytes) : List Bytes → Nat → Int
  | [], _ => -1
  | y :: l, i => cond (x == y) (i : Int) (idxS x l (i + 1))
def hasS (l : List Bytes) (x : Bytes) : Bool := decide (idxS x l 0 ≥ 0)

def t20 (a0 : Item) (ks : (List Bytes)) : Option (Bool) := (cond (decide (List.length ks ≤ 1000)) (some (!(hasS ks a0.1))) none)
def t20_ok (a0 : Item) (ks : (List Bytes)) : Bool := (t20 a0 ks).isSome
def t20_0 (a0 : Item) (ks : (List Bytes)) : Bool := ((t20 a0 ks).getD ((Tc.dflt .bool)))
def t80 (a0 : Item) (k : Bytes) (pl : Bytes) (lg : Int) (ps : (List Bytes)) : Bool := (a0.1 == k)
def t80_0 (a0 : Item) (k : Bytes) (pl : Bytes) (lg : Int) (ps : (List Bytes)) : Bool := (t80 a0 k pl lg ps)
def t79 (a0 : (List Item)) (k : Bytes) (pl : Bytes) (lg : Int) (ps : (List Bytes)) : Option (Bool) := (cond (decide (List.length a0 ≤ 1000)) (some (decide ((idxBy (fun o => t80_0 o k pl lg ps) a0 0) ≥ (0 : Int)))) none)
def t79_ok (a0 : (List Item)) (k : Bytes) (pl : Bytes) (lg : Int) (ps : (List Bytes)) : Bool := (t79 a0 k pl lg ps).isSome
def t79_0 (a0 : (List Item)) (k : Bytes) (pl : Bytes) (lg : Int) (ps : (List Bytes)) : Bool := ((t79 a0 k pl lg ps).getD ((Tc.dflt .bool)))
def t98 (a0 : Prgm) (a1 : Item) (a2 : Item) : Int := (cond (!(a1.2.1 == a2.2.1)) a0.2.1 a0.2.2.1)
def t98_0 (a0 : Prgm) (a1 : Item) (a2 : Item) : Int := (t98 a0 a1 a2)
def t17 (a0 : (List Bytes)) (c1 : Int) (c2 : Int) (c3 : Int) (c4 : Int) (its : (List Item)) : Option (Int) := (cond (decide (List.length its ≤ 1000)) (cond (decide (List.length (its) ≤ 1000) && decide (List.length a0 ≤ 1000)) (cond (((longP ((List.filter (fun o => !t20_0 o a0) (its)), (c1, (c2, (c3, (-1 : Int)))))).2) != (0 : Int)) (some (-1 : Int)) (cond (((List.length (List.filter (fun o => !t20_0 o a0) (its)) : Nat) : Int) != ((List.length (a0) : Nat) : Int)) (some (-1 : Int)) (some ((longP ((List.filter (fun o => !t20_0 o a0) (its)), (c1, (c2, (c3, (-1 : Int)))))).1)))) none) none)
def t17_ok (a0 : (List Bytes)) (c1 : Int) (c2 : Int) (c3 : Int) (c4 : Int) (its : (List Item)) : Bool := (t17 a0 c1 c2 c3 c4 its).isSome
def t17_0 (a0 : (List Bytes)) (c1 : Int) (c2 : Int) (c3 : Int) (c4 : Int) (its : (List Item)) : Int := ((t17 a0 c1 c2 c3 c4 its).getD ((Tc.dflt tI)))
def t35 (a0 : Prgm) (a1 : (List Item)) : Option (Int) := (cond (decide (List.length (a1, (a0.2.1, (a0.2.2.1, (a0.2.2.2.1, (-1 : Int))))).1 ≤ 1000)) (some ((begGo (a1, (a0.2.1, (a0.2.2.1, (a0.2.2.2.1, (-1 : Int))))) 0 0 (a1, (a0.2.1, (a0.2.2.1, (a0.2.2.2.1, (-1 : Int))))).1).2)) none)
def t35_ok (a0 : Prgm) (a1 : (List Item)) : Bool := (t35 a0 a1).isSome
def t35_0 (a0 : Prgm) (a1 : (List Item)) : Int := ((t35 a0 a1).getD ((Tc.dflt tI)))
def t99 (a0 : Int) : Bool := (a0 != a0)
def t99_0 (a0 : Int) : Bool := (t99 a0)
def t73 (a0 : Int) (a1 : Int) : Int := (cond (t99_0 a0) (cond (t99_0 a1) (0 : Int) (-1 : Int)) (cond (t99_0 a1) (1 : Int) (cond (decide (a0 < a1)) (-1 : Int) (cond (decide (a0 > a1)) (1 : Int) (0 : Int)))))
def t73_0 (a0 : Int) (a1 : Int) : Int := (t73 a0 a1)
end Go.Ev.Y

set_option linter.unusedVariables false
set_option linter.unusedSimpArgs false
set_option maxRecDepth 100000
namespace Go.Ev.Y
open Go Go.Ev Go.Proofs

def tab : List (Nat × TI) := [
  (3, ⟨1, false, [dI .i64 0], some tI, [], none, 8, true, none, none, false⟩),
  (4, ⟨1, false, [dB false], some .bool, [], none, 1, true, none, none, false⟩),
  (5, ⟨1, false, [dI .u8 0], some (.int .u8), [], none, 1, true, none, none, false⟩),
  (9, ⟨1, false, [dS []], some .str, [], none, 16, true, none, none, false⟩),
  (12, ⟨1, false, [dI .u64 0], some (.int .u64), [], none, 8, true, none, none, false⟩),
  (13, ⟨2, true, [dS [], dI .u64 0], some (.st (.pair .str (.int .u64))), [(0, 9), (1, 12)], none, 24, false, none, none, false⟩),
  (17, ⟨1, false, [.nilp], none, [], none, 8, false, some 251, none, false⟩),
  (18, ⟨1, true, [.nilp], none, [(0, 17)], none, 8, false, none, none, false⟩),
  (19, ⟨1, true, [.nilp], none, [(0, 17)], none, 8, false, none, none, false⟩),
  (20, ⟨1, false, [.nili], none, [], none, 16, false, none, none, true⟩),
  (21, ⟨1, false, [dI .i32 0], some (.int .i32), [], none, 4, true, none, none, false⟩),
  (22, ⟨1, false, [.nil0], some (.slice tI), [], some 3, 24, false, none, none, false⟩),
  (23, ⟨1, false, [.nilp], none, [], none, 8, false, some 25, none, false⟩),
  (25, ⟨2, true, [.nil0, dI .i64 0], some (.st (.pair (.slice tI) tI)), [(0, 22), (1, 3)], none, 32, false, none, none, false⟩),
  (26, ⟨1, false, [.nil0], some (.slice tItem), [], some 48, 24, false, none, none, false⟩),
  (28, ⟨5, true, [.nil0, dI .i64 0, dI .i64 0, dI .i64 0, dI .i64 0], some tPrgm, [(0, 26), (1, 3), (2, 3), (3, 3), (4, 3)], none, 56, false, none, none, false⟩),
  (30, ⟨1, false, [dI .i64 0], some tI, [], none, 8, true, none, none, false⟩),
  (32, ⟨1, false, [.nilf], none, [], none, 8, false, none, none, false⟩),
  (33, ⟨1, false, [.nilf], none, [], none, 8, false, none, none, false⟩),
  (35, ⟨1, false, [.nilf], none, [], none, 8, false, none, none, false⟩),
  (42, ⟨2, true, [dI .i64 0, dI .i64 0], some tWindow, [(0, 3), (1, 3)], none, 16, true, none, none, false⟩),
  (43, ⟨2, true, [dI .i64 0, dI .i64 0], some tWindow, [(0, 3), (1, 3)], none, 16, true, none, none, false⟩),
  (44, ⟨3, true, [dS [], dI .i64 0, dI .i64 0], some tTimed, [(0, 9), (1, 43)], none, 32, true, none, none, false⟩),
  (45, ⟨3, true, [dS [], dI .i64 0, dI .i64 0], some tTimed, [(0, 9), (1, 43)], none, 32, true, none, none, false⟩),
  (46, ⟨1, false, [.nil0], some (.slice .str), [], some 9, 24, false, none, none, false⟩),
  (48, ⟨4, true, [dS [], dS [], dI .i64 0, .nil0], some tItem, [(0, 9), (1, 9), (2, 3), (3, 46)], none, 64, false, none, none, false⟩),
  (54, ⟨1, false, [.nilf], none, [], none, 8, false, none, none, false⟩),
  (55, ⟨1, false, [.nilf], none, [], none, 8, false, none, none, false⟩),
  (73, ⟨1, false, [.nilf], none, [], none, 8, false, none, none, false⟩),
  (75, ⟨5, true, [dI .i64 0, dI .i64 0, dI .i64 0, dI .i64 0, dB false], some (.st (.pair tI (.pair tI (.pair tI (.pair tI .bool))))), [(0, 3), (1, 3), (2, 3), (3, 3), (4, 4)], none, 40, false, none, none, false⟩),
  (76, ⟨1, false, [.nil0], some (.slice (.st (.pair tI (.pair tI (.pair tI (.pair tI .bool)))))), [], some 75, 24, false, none, none, false⟩),
  (78, ⟨1, false, [.nilf], none, [], none, 8, false, none, none, false⟩),
  (79, ⟨3, true, [dI .i64 0, dI .i64 0, dI .i64 0], some (.st (.pair tI (.pair tI tI))), [(0, 3), (1, 3), (2, 3)], none, 24, false, none, none, false⟩),
  (80, ⟨3, true, [dI .i64 0, dI .i64 0, dI .i64 0], some (.st (.pair tI (.pair tI tI))), [(0, 3), (1, 3), (2, 3)], none, 24, false, none, none, false⟩),
  (81, ⟨1, false, [.nilf], none, [], none, 8, false, none, none, false⟩),
  (83, ⟨3, true, [dI .i64 0, dS [], dB false], some (.st (.pair tI (.pair .str .bool))), [(0, 3), (1, 9), (2, 4)], none, 32, false, none, none, false⟩),
  (84, ⟨1, false, [.nil0], some (.slice (.st (.pair tI (.pair .str .bool)))), [], some 83, 24, false, none, none, false⟩),
  (87, ⟨10, true, [dS [], dI .i64 0, dI .i64 0, dI .i64 0, dS [], dS [], dI .i64 0, dB false, dS [], dI .i64 0], some (.st (.pair .str (.pair tI (.pair tI (.pair tI (.pair .str (.pair .str (.pair tI (.pair .bool (.pair .str tI)))))))))), [(0, 9), (1, 3), (2, 3), (3, 3), (4, 9), (5, 9), (6, 3), (7, 4), (8, 9), (9, 3)], none, 112, false, none, none, false⟩),
  (88, ⟨1, false, [.nil0], some (.slice (.st (.pair .str (.pair tI (.pair tI (.pair tI (.pair .str (.pair .str (.pair tI (.pair .bool (.pair .str tI))))))))))), [], some 87, 24, false, none, none, false⟩),
  (91, ⟨1, false, [.nil0], some (.slice tI), [], some 30, 24, false, none, none, false⟩),
  (98, ⟨3, true, [dI .i64 0, dI .i64 0, .nil0], some (.st (.pair tI (.pair tI (.slice .str)))), [(0, 3), (1, 3), (2, 46)], none, 40, false, none, none, false⟩),
  (99, ⟨1, false, [.nilf], none, [], none, 8, false, none, none, false⟩),
  (103, ⟨1, false, [.nilf], none, [], none, 8, false, none, none, false⟩),
  (104, ⟨1, false, [.nilf], none, [], none, 8, false, none, none, false⟩),
  (178, ⟨1, false, [.nilp], none, [], none, 8, false, some 174, none, false⟩)]
noncomputable def En0 : Env := ⟨ttOf tab, fun _ => none, fun _ _ => True, fun _ => none⟩
noncomputable def I45 : FnI := ⟨En0, ⟨[(0, [0, 1, 7, 8], [])], [], []⟩, Tryz.f45, codeOf Tryz.f45, [.data tI], 0⟩
noncomputable def S45 : Spec := genS [true, true] false ⟨[.undef, .undef], []⟩ [(.slice .str), .str] (fun x => decide (List.length x.1 ≤ 1000)) (fun x => ⟨[.dat tI (idxS x.2.1 x.1 0)], []⟩)
noncomputable def En45 : Env := En0.add 45 S45
noncomputable def I21 : FnI := ⟨En45, ⟨[], [], []⟩, Tryz.f21, codeOf Tryz.f21, [.data .bool], 0⟩
noncomputable def S21 : Spec := genS [true, true] false ⟨[.undef, .undef], []⟩ [(.slice .str), .str] (fun x => decide (List.length x.1 ≤ 1000)) (fun x => ⟨[.dat .bool (hasS x.1 x.2.1)], []⟩)
noncomputable def En21 : Env := En45.add 21 S21
noncomputable def I20 : FnI := ⟨En21, ⟨[], [], []⟩, Tryz.f20, codeOf Tryz.f20, [.data .bool], 1⟩
noncomputable def S20 : Spec := genS [true] true ⟨[.undef, .ptr 0 0], [(0, .box [.undef])]⟩ [tItem, (.slice .str)] (fun x => t20_ok x.1 x.2.1) (fun x => ⟨[.dat .bool (t20_0 x.1 x.2.1)], [(0, .box [.dat (.slice .str) x.2.1])]⟩)
noncomputable def En20 : Env := En21.add 20 S20
noncomputable def I44 : FnI := ⟨En20, ⟨[(0, [0, 1, 7, 8], [])], [], []⟩, Tryz.f44, codeOf Tryz.f44, [.data tI], 2⟩
noncomputable def S44 : Spec := genS [false, false] true ⟨[.slc 0, .clos 20 [.ptr 1 0]], [(0, .arr tItem []), (1, .box [.undef])]⟩ [(.slice tItem), (.slice .str)] (fun x => decide (List.length x.1 ≤ 1000) && decide (List.length x.2.1 ≤ 1000)) (fun x => ⟨[.dat tI (idxBy (fun o => t20_0 o x.2.1) x.1 0)], [(0, .arr tItem (x.1)), (1, .box [.dat (.slice .str) (x.2.1)])]⟩)
noncomputable def En44 : Env := En20.add 44 S44
noncomputable def I18 : FnI := ⟨En44, ⟨[(0, [0, 1, 5, 6], [])], [100038, 41], []⟩, Tryz.f18, codeOf Tryz.f18, [.move tItem], 2⟩
noncomputable def S18 : Spec := genS [false, false] true ⟨[.slc 0, .clos 20 [.ptr 1 0]], [(0, .arr tItem []), (1, .box [.undef])]⟩ [(.slice tItem), (.slice .str)] (fun x => decide (List.length x.1 ≤ 1000) && decide (List.length x.2.1 ≤ 1000)) (fun x => ⟨[.slc 4], [(0, .dead), (1, .box [.dat (.slice .str) (x.2.1)]), (4, .arr tItem (List.filter (fun o => !t20_0 o x.2.1) x.1))]⟩)
noncomputable def En18 : Env := En44.add 18 S18
noncomputable def I42 : FnI := ⟨En18, ⟨[], [], []⟩, Tryz.f42, codeOf Tryz.f42, [.data .bool], 0⟩
noncomputable def S42 : Spec := genS [true, true, true] false ⟨[.undef, .undef, .undef], []⟩ [tI, tI, tI] (fun x => true) (fun x => ⟨[.dat .bool (outside x.1 x.2.1 x.2.2.1)], []⟩)
noncomputable def En42 : Env := En18.add 42 S42
noncomputable def I80 : FnI := ⟨En42, ⟨[], [], []⟩, Tryz.f80, codeOf Tryz.f80, [.data .bool], 1⟩
noncomputable def S80 : Spec := genS [true] true ⟨[.undef, .ptr 0 0], [(0, .box [.undef, .undef, .undef, .undef])]⟩ [tItem, .str, .str, tI, (.slice .str)] (fun x => true) (fun x => ⟨[.dat .bool (t80_0 x.1 x.2.1 x.2.2.1 x.2.2.2.1 x.2.2.2.2.1)], [(0, .box [.dat .str x.2.1, .dat .str x.2.2.1, .dat tI x.2.2.2.1, .dat (.slice .str) x.2.2.2.2.1])]⟩)
noncomputable def En80 : Env := En42.add 80 S80
noncomputable def I44a : FnI := ⟨En80, ⟨[(0, [0, 1, 7, 8], [])], [], []⟩, Tryz.f44, codeOf Tryz.f44, [.data tI], 1⟩
noncomputable def S44a : Spec := genS [false, false] true ⟨[.undef, .clos 80 [.ptr 0 0]], [(0, .box [.undef, .undef, .undef, .undef])]⟩ [(.slice tItem), .str, .str, tI, (.slice .str)] (fun x => decide (List.length x.1 ≤ 1000)) (fun x => ⟨[.dat tI (idxBy (fun o => t80_0 o x.2.1 x.2.2.1 x.2.2.2.1 x.2.2.2.2.1) x.1 0)], [(0, .box [.dat .str (x.2.1), .dat .str (x.2.2.1), .dat tI (x.2.2.2.1), .dat (.slice .str) (x.2.2.2.2.1)])]⟩)
noncomputable def SS44a : Spec := orS S44 S44a
noncomputable def En44a : Env := En80.add 44 SS44a
noncomputable def I79 : FnI := ⟨En44a, ⟨[], [], []⟩, Tryz.f79, codeOf Tryz.f79, [.data .bool], 1⟩
noncomputable def S79 : Spec := genS [true, false] true ⟨[.undef, .clos 80 [.ptr 0 0]], [(0, .box [.undef, .undef, .undef, .undef])]⟩ [(.slice tItem), .str, .str, tI, (.slice .str)] (fun x => t79_ok x.1 x.2.1 x.2.2.1 x.2.2.2.1 x.2.2.2.2.1) (fun x => ⟨[.dat .bool (t79_0 x.1 x.2.1 x.2.2.1 x.2.2.2.1 x.2.2.2.2.1)], [(0, .box [.dat .str x.2.1, .dat .str x.2.2.1, .dat tI x.2.2.2.1, .dat (.slice .str) x.2.2.2.2.1])]⟩)
noncomputable def En79 : Env := En44a.add 79 S79
noncomputable def S103 : Spec := genS [true, true] false ⟨[.undef, .undef], []⟩ [.str, (.int .u8)] (fun x => true) (fun x => ⟨[.dat tI (indexB x.1 x.2.1)], []⟩)
noncomputable def En103 : Env := En79.add 103 S103
noncomputable def S104 : Spec := genS [true, true] false ⟨[.undef, .undef], []⟩ [.str, .str] (fun x => trimOk x.1 x.2.1) (fun x => ⟨[.dat .str (trimB x.1 x.2.1)], []⟩)
noncomputable def En104 : Env := En103.add 104 S104
noncomputable def I78 : FnI := ⟨En104, ⟨[], [], []⟩, Tryz.f78, codeOf Tryz.f78, [.data .bool], 0⟩
noncomputable def S78 : Spec := genS [true] false ⟨[.undef], []⟩ [.str] (fun x => true) (fun x => ⟨[.dat .bool (isKey x.1)], []⟩)
noncomputable def En78 : Env := En104.add 78 S78
noncomputable def I81 : FnI := ⟨En78, ⟨[(0, [0, 11, 12, 13], [])], [], []⟩, Tryz.f81, codeOf Tryz.f81, [.data tI], 0⟩
noncomputable def S81 : Spec := genS [true] false ⟨[.undef], []⟩ [(.slice .str)] (fun x => true) (fun x => ⟨[.dat tI (partsF isKey x.1)], []⟩)
noncomputable def En81 : Env := En78.add 81 S81
noncomputable def I55 : FnI := ⟨En81, ⟨[(0, [0, 9, 10, 11], [])], [], []⟩, Tryz.f55, codeOf Tryz.f55, [.data tI], 0⟩
noncomputable def S55 : Spec := genS [true] false ⟨[.undef], []⟩ [(.slice tItem)] (fun x => true) (fun x => ⟨[.dat tI (checkItems isKey x.1)], []⟩)
noncomputable def En55 : Env := En81.add 55 S55
noncomputable def I34 : FnI := ⟨En55, ⟨[], [], []⟩, Tryz.f34, codeOf Tryz.f34, [.data tI], 0⟩
noncomputable def S34 : Spec := genS [true] false ⟨[.undef], []⟩ [tPrgm] (fun x => true) (fun x => ⟨[.dat tI (checkProg isKey x.1)], []⟩)
noncomputable def En34 : Env := En55.add 34 S34
noncomputable def I98 : FnI := ⟨En34, ⟨[], [], []⟩, Tryz.f98, codeOf Tryz.f98, [.data tI], 0⟩
noncomputable def S98 : Spec := genS [true, true, true] false ⟨[.undef, .undef, .undef], []⟩ [tPrgm, tItem, tItem] (fun x => true) (fun x => ⟨[.dat tI (t98_0 x.1 x.2.1 x.2.2.1)], []⟩)
noncomputable def En98 : Env := En34.add 98 S98
noncomputable def I72 : FnI := ⟨En98, ⟨[], [], []⟩, Tryz.f72, codeOf Tryz.f72, [.data tI], 0⟩
noncomputable def S72 : Spec := genS [true, true] false ⟨[.undef, .undef], []⟩ [tPrgm, tI] (fun x => decide (0 ≤ x.2.1) && decide (x.2.1 + 1 < (List.length x.1.1 : Int)) && decide (List.length x.1.1 ≤ 1000)) (fun x => ⟨[.dat tI (behindF x.1 x.2.1)], []⟩)
noncomputable def En72 : Env := En98.add 72 S72
noncomputable def I40 : FnI := ⟨En72, ⟨[(0, [1, 4, 5, 9, 10, 11], [(4, tI)])], [], []⟩, Tryz.f40, codeOf Tryz.f40, [.own tI, .data tI], 0⟩
noncomputable def S40 : Spec := genS [true] false ⟨[.undef], []⟩ [tPrgm] (fun x => decide (List.length x.1.1 ≤ 1000)) (fun x => ⟨[.slc 0, .dat tI ((begGo x.1 0 0 x.1.1).2)], [(0, .arr tI ((begGo x.1 0 0 x.1.1).1))]⟩)
noncomputable def En40 : Env := En72.add 40 S40
noncomputable def I11 : FnI := ⟨En40, ⟨[], [], []⟩, Tryz.f11, codeOf Tryz.f11, [.data tI, .data tI], 0⟩
noncomputable def S11 : Spec := genS [true] false ⟨[.undef], []⟩ [tPrgm] (fun x => true) (fun x => ⟨[.dat tI ((longP x.1).1), .dat tI ((longP x.1).2)], []⟩)
noncomputable def En11 : Env := En40.add 11 S11
noncomputable def I19 : FnI := ⟨En11, ⟨[], [], []⟩, Tryz.f19, codeOf Tryz.f19, [.own tItem], 0⟩
noncomputable def S19 : Spec := genS [true] true ⟨[.undef], []⟩ [(.slice tItem)] (fun x => decide (List.length x.1 ≤ 1000)) (fun x => ⟨[.slc 0], [(0, .arr tItem (x.1))]⟩)
noncomputable def En19 : Env := En11.add 19 S19
noncomputable def I17 : FnI := ⟨En19, ⟨[], [], [(2, [(0, .str)]), (4, [(0, tItem)])]⟩, Tryz.f17, codeOf Tryz.f17, [.data tI], 2⟩
noncomputable def S17 : Spec := genS [true] true ⟨[.undef, .ptr 0 0], [(0, .box [.slc 1, .undef, .undef, .undef, .undef]), (1, .frz tItem [])]⟩ [(.slice .str), tI, tI, tI, tI, (.slice tItem)] (fun x => t17_ok x.1 x.2.1 x.2.2.1 x.2.2.2.1 x.2.2.2.2.1 x.2.2.2.2.2.1) (fun x => ⟨[.dat tI (t17_0 x.1 x.2.1 x.2.2.1 x.2.2.2.1 x.2.2.2.2.1 x.2.2.2.2.2.1)], [(0, .box [.slc 1, .dat tI x.2.1, .dat tI x.2.2.1, .dat tI x.2.2.2.1, .dat tI x.2.2.2.2.1]), (1, .frz tItem x.2.2.2.2.2.1)]⟩)
noncomputable def En17 : Env := En19.add 17 S17
noncomputable def I54 : FnI := ⟨En17, ⟨[], [], []⟩, Tryz.f54, codeOf Tryz.f54, [.data tI], 0⟩
noncomputable def S54 : Spec := genS [true, true] false ⟨[.undef, .undef], []⟩ [tI, tI] (fun x => true) (fun x => ⟨[.dat tI (below x.1 x.2.1)], []⟩)
noncomputable def En54 : Env := En17.add 54 S54
noncomputable def I33 : FnI := ⟨En54, ⟨[], [], []⟩, Tryz.f33, codeOf Tryz.f33, [.data tI], 1⟩
noncomputable def S33 : Spec := genS [false, true] true ⟨[.ptr 0 0, .undef], [(0, .box [.undef, .undef])]⟩ [tI, (.slice tI), tI] (fun x => atOk 1 x.2.2.1) (fun x => ⟨[.dat tI (next x.2.1 x.2.2.1 x.1)], [(0, .box [.dat (.slice tI) (x.2.1), .dat tI (nextAt x.2.2.1)])]⟩)
noncomputable def En33 : Env := En54.add 33 S33
noncomputable def I30 : FnI := ⟨En33, ⟨[], [], []⟩, Tryz.f30, codeOf Tryz.f30, [.data tI], 1⟩
noncomputable def S30 : Spec := genS [false, true] true ⟨[.ptr 0 0, .undef], [(0, .box [.undef, .undef])]⟩ [(.slice tI), (.slice tI), tI] (fun x => atOk 1 x.2.2.1 && decide (0 < List.length x.1) && decide (List.length x.1 ≤ 1000)) (fun x => ⟨[.dat tI (pick x.2.1 x.2.2.1 x.1)], [(0, .box [.dat (.slice tI) (x.2.1), .dat tI (nextAt x.2.2.1)])]⟩)
noncomputable def En30 : Env := En33.add 30 S30
noncomputable def I31 : FnI := ⟨En30, ⟨[], [], []⟩, Tryz.f31, codeOf Tryz.f31, [.data .bool], 1⟩
noncomputable def S31 : Spec := genS [false, true] true ⟨[.ptr 0 0, .undef], [(0, .box [.undef, .undef])]⟩ [tI, (.slice tI), tI] (fun x => atOk 1 x.2.2.1) (fun x => ⟨[.dat .bool (next x.2.1 x.2.2.1 x.1 == 0)], [(0, .box [.dat (.slice tI) (x.2.1), .dat tI (nextAt x.2.2.1)])]⟩)
noncomputable def En31 : Env := En30.add 31 S31
noncomputable def I32 : FnI := ⟨En31, ⟨[], [], []⟩, Tryz.f32, codeOf Tryz.f32, [.data .str], 1⟩
noncomputable def S32 : Spec := genS [false, true] true ⟨[.ptr 0 0, .undef], [(0, .box [.undef, .undef])]⟩ [(.slice .str), (.slice tI), tI] (fun x => atOk 1 x.2.2.1 && decide (0 < List.length x.1) && decide (List.length x.1 ≤ 1000)) (fun x => ⟨[.dat .str (some_ x.2.1 x.2.2.1 x.1)], [(0, .box [.dat (.slice tI) (x.2.1), .dat tI (nextAt x.2.2.1)])]⟩)
noncomputable def En32 : Env := En31.add 32 S32
noncomputable def I8 : FnI := ⟨En32, ⟨[(0, [0, 4, 5, 23, 24, 25], []), (2, [0, 4, 5, 8, 23, 24, 25, 39, 40, 41], [])], [], [(20, [(0, tItem)]), (38, [(3, .str)])]⟩, Tryz.f8, codeOf Tryz.f8, [.raw], 1⟩
noncomputable def rightP (L : List Int) (at_ n : Int) : Int × List Item × Int × Int × Int × Int := Classical.epsilon fun p => (at_ ≤ p.1 ∧ p.1 ≤ at_ + 200 ∧ p.2.1.length ≤ 5 ∧ (∀ x ∈ p.2.1, x.2.2.2.length ≤ 5) ∧ checkProg isKey p.2 = 0) ∧
  I8.run ⟨[.ptr 0 0, .dat tI n], [(0, .box [.dat (.slice tI) L, .dat tI at_])]⟩ = some ⟨[.agg [.slc 2, .dat tI p.2.2.1, .dat tI p.2.2.2.1, .dat tI p.2.2.2.2.1, .dat tI p.2.2.2.2.2]], [(0, .box [.dat (.slice tI) L, .dat tI p.1]), (2, .arr tItem p.2.1)]⟩
noncomputable def S8 : Spec := genS [false, true] true ⟨[.ptr 0 0, .undef], [(0, .box [.undef, .undef])]⟩ [tI, (.slice tI), tI] (fun x => atOk 1000 x.2.2.1 && decide (0 ≤ x.1) && decide (x.1 ≤ 5)) (fun x => ⟨[.agg [.slc 2, .dat tI ((rightP x.2.1 x.2.2.1 x.1).2.2.1), .dat tI ((rightP x.2.1 x.2.2.1 x.1).2.2.2.1), .dat tI ((rightP x.2.1 x.2.2.1 x.1).2.2.2.2.1), .dat tI ((rightP x.2.1 x.2.2.1 x.1).2.2.2.2.2)]], [(0, .box [.dat (.slice tI) (x.2.1), .dat tI ((rightP x.2.1 x.2.2.1 x.1).1)]), (2, .arr tItem ((rightP x.2.1 x.2.2.1 x.1).2.1))]⟩)
noncomputable def En8 : Env := En32.add 8 S8
noncomputable def S10 : Spec := genS [] false ⟨[], []⟩ [] (fun x => true) (fun x => ⟨[.dat .bool true], []⟩)
noncomputable def En10 : Env := En8.add 10 S10
noncomputable def I13 : FnI := ⟨En10, ⟨[], [], []⟩, Tryz.f13, codeOf Tryz.f13, [.data tI], 1⟩
noncomputable def S13 : Spec := genS [false, true, true] true ⟨[.ptr 0 0, .undef, .undef], [(0, .box [.undef, .undef])]⟩ [tI, tI, (.slice tI), tI] (fun x => atOk 1 x.2.2.2.1) (fun x => ⟨[.dat tI (rangeS x.2.2.1 x.2.2.2.1 x.1 x.2.1)], [(0, .box [.dat (.slice tI) (x.2.2.1), .dat tI (rangeAt x.2.2.2.1 x.1 x.2.1)])]⟩)
noncomputable def En13 : Env := En10.add 13 S13
noncomputable def I35 : FnI := ⟨En13, ⟨[], [], []⟩, Tryz.f35, codeOf Tryz.f35, [.data tI], 0⟩
noncomputable def S35 : Spec := genS [true, true] false ⟨[.undef, .undef], []⟩ [tPrgm, (.slice tItem)] (fun x => t35_ok x.1 x.2.1) (fun x => ⟨[.dat tI (t35_0 x.1 x.2.1)], []⟩)
noncomputable def En35 : Env := En13.add 35 S35
noncomputable def I99 : FnI := ⟨En35, ⟨[], [], []⟩, Tryz.f99, codeOf Tryz.f99, [.data .bool], 0⟩
noncomputable def S99 : Spec := genS [true] false ⟨[.undef], []⟩ [tI] (fun x => true) (fun x => ⟨[.dat .bool (t99_0 x.1)], []⟩)
noncomputable def En99 : Env := En35.add 99 S99
noncomputable def I73 : FnI := ⟨En99, ⟨[], [], []⟩, Tryz.f73, codeOf Tryz.f73, [.data tI], 0⟩
noncomputable def S73 : Spec := genS [true, true] false ⟨[.undef, .undef], []⟩ [tI, tI] (fun x => true) (fun x => ⟨[.dat tI (t73_0 x.1 x.2.1)], []⟩)
noncomputable def En73 : Env := En99.add 73 S73
noncomputable def I43 : FnI := ⟨En73, ⟨[(0, [0, 1, 9, 10, 11], [])], [], []⟩, Tryz.f43, codeOf Tryz.f43, [.data tI], 0⟩
noncomputable def S43 : Spec := genS [true, true] false ⟨[.undef, .undef], []⟩ [(.slice tI), (.slice tI)] (fun x => decide (List.length x.1 ≤ 1000)) (fun x => ⟨[.dat tI (cmpGo x.1 x.2.1)], []⟩)
noncomputable def En43 : Env := En73.add 43 S43
noncomputable def I16 : FnI := ⟨En43, ⟨[(0, [1, 2, 7, 8, 33, 34], [(7, tI)]), (2, [1, 2, 7, 8, 9, 10, 11, 33, 34, 38, 39, 40], [(10, tItem), (11, tI)]), (4, [2, 16, 97, 98, 99], [(16, .str)])], [], []⟩, Tryz.f16, codeOf Tryz.f16, [.data (.slice .str), .data tI], 0⟩
noncomputable def S16 : Spec := genS [true, true] true ⟨[.undef, .undef], []⟩ [tPrgm, tI] (fun x => decide (List.length x.1.1 ≤ 5)) (fun x => ⟨[.dat (.slice .str) ((fitF x.1 x.2.1).1), .dat tI ((fitF x.1 x.2.1).2)], []⟩)
noncomputable def En16 : Env := En43.add 16 S16
noncomputable def I22 : FnI := ⟨En16, ⟨[], [], []⟩, Tryz.f22, codeOf Tryz.f22, [.own .str], 0⟩
noncomputable def S22 : Spec := genS [true] false ⟨[.undef], []⟩ [(.slice .str)] (fun x => decide (List.length x.1 ≤ 1000)) (fun x => ⟨[.slc 0], [(0, .arr .str (x.1))]⟩)
noncomputable def En22 : Env := En16.add 22 S22
noncomputable def I5 : FnI := ⟨En22, ⟨[(0, [5, 6, 8, 39, 40, 41], [])], [], []⟩, Tryz.f5, codeOf Tryz.f5, [.data .bool], 0⟩
noncomputable def S5 : Spec := genS [true] false ⟨[.undef], []⟩ [(.slice tI)] (fun x => true) (fun x => ⟨[.dat .bool true], []⟩)
end Go.Ev.Y

set_option linter.unusedVariables false
set_option linter.unusedSimpArgs false
set_option maxRecDepth 100000
namespace Go.Ev.Y
open Go Go.Ev Go.Proofs
noncomputable def f45h0 (x0 : (List Bytes)) (x1 : Bytes) (x2 : Int) (x3 : Int) : Option Fr := I45.hd 0 (mkF 19 [(0, .dat (.slice .str) x0), (1, .dat .str x1), (7, .dat tI x2), (8, .dat tI x3)] [])
theorem f45_run (a0 : (List Bytes)) (a1 : Bytes) : I45.run ⟨[.dat (.slice .str) a0, .dat .str a1], []⟩ = (f45h0 a0 a1 ((List.length a0 : Nat) : Int) (0 : Int)) := (I45.run_eq _).trans (by kernel_rfl)
theorem f45h0_eq (x0 : (List Bytes)) (x1 : Bytes) (x2 : Int) (x3 : Int) : f45h0 x0 x1 x2 x3 = (cond (decide (x3 < x2)) (cond (decide ((0 : Int) ≤ x3)) (cond (decide (x3 < ((List.length x0 : Nat) : Int))) (cond (x1 == (List.getD x0 (Int.toNat x3) (Tc.dflt .str))) (some ⟨[.dat tI x3], []⟩) (f45h0 x0 x1 x2 (wrap .i64 (x3 + (1 : Int))))) none) none) (some ⟨[.dat tI (-1 : Int)], []⟩)) := hdEq (by kernel_rfl)
theorem f21_run (a0 : (List Bytes)) (a1 : Bytes) : I21.run ⟨[.dat (.slice .str) a0, .dat .str a1], []⟩ = (cond (decide (List.length a0 ≤ 1000)) (some ⟨[.dat .bool (decide ((idxS a1 a0 0) ≥ (0 : Int)))], []⟩) none) := (I21.run_eq _).trans (by kernel_rfl)
theorem f20_run (a0 : Item) (ks : (List Bytes)) : I20.run ⟨[.dat tItem a0, .ptr 0 0], [(0, .box [.dat (.slice .str) ks])]⟩ = (cond (decide (List.length ks ≤ 1000)) (some ⟨[.dat .bool (!(hasS ks a0.1))], [(0, .box [.dat (.slice .str) ks])]⟩) none) := (I20.run_eq _).trans (by kernel_rfl)
noncomputable def f44h0 (x0 : Int) (x1 : Int) (x2 : (List Item)) (x3 : (List Bytes)) : Option Fr := I44.hd 0 (mkF 19 [(0, .slc 0), (1, .clos 20 [.ptr 1 0]), (7, .dat tI x0), (8, .dat tI x1)] [(0, .arr tItem x2), (1, .box [.dat (.slice .str) x3])])
theorem f44_run (a0 : (List Item)) (ks : (List Bytes)) : I44.run ⟨[.slc 0, .clos 20 [.ptr 1 0]], [(0, .arr tItem a0), (1, .box [.dat (.slice .str) ks])]⟩ = (f44h0 ((List.length a0 : Nat) : Int) (0 : Int) a0 ks) := (I44.run_eq _).trans (by kernel_rfl)
theorem f44h0_eq (x0 : Int) (x1 : Int) (x2 : (List Item)) (x3 : (List Bytes)) : f44h0 x0 x1 x2 x3 = (cond (decide (x1 < x0)) (cond (decide ((0 : Int) ≤ x1)) (cond (decide (x1 < ((List.length x2 : Nat) : Int))) (cond (decide ((Int.toNat x1) < List.length x2)) (cond (t20_ok (List.getD x2 (Int.toNat x1) (Tc.dflt tItem)) x3) (cond (t20_0 (List.getD x2 (Int.toNat x1) (Tc.dflt tItem)) x3) (some ⟨[.dat tI x1], [(0, .arr tItem x2), (1, .box [.dat (.slice .str) x3])]⟩) (f44h0 x0 (wrap .i64 (x1 + (1 : Int))) x2 x3)) none) none) none) none) (some ⟨[.dat tI (-1 : Int)], [(0, .arr tItem x2), (1, .box [.dat (.slice .str) x3])]⟩)) := hdEq (by kernel_rfl)
noncomputable def f18h0 (x0 : Int) (x1 : Int) (x2 : (List Item)) (x3 : (List Bytes)) : Option Fr := I18.hd 0 (mkF 42 [(0, .slc 0), (1, .clos 20 [.ptr 1 0]), (5, .dat tI x0), (6, .dat tI x1)] [(0, .arr tItem x2), (1, .box [.dat (.slice .str) x3])])
theorem f18_run (a0 : (List Item)) (ks : (List Bytes)) : I18.run ⟨[.slc 0, .clos 20 [.ptr 1 0]], [(0, .arr tItem a0), (1, .box [.dat (.slice .str) ks])]⟩ = (cond (decide (List.length a0 ≤ 1000) && decide (List.length ks ≤ 1000)) (cond ((idxBy (fun o => t20_0 o ks) a0 0) == (-1 : Int)) (some ⟨[.slc 4], [(0, .dead), (1, .box [.dat (.slice .str) (ks)]), (4, .arr tItem (a0))]⟩) (f18h0 (idxBy (fun o => t20_0 o ks) a0 0) (wrap .i64 ((idxBy (fun o => t20_0 o ks) a0 0) + (1 : Int))) (a0) (ks))) none) := (I18.run_eq _).trans (by kernel_rfl)
theorem f18h0_eq (x0 : Int) (x1 : Int) (x2 : (List Item)) (x3 : (List Bytes)) : f18h0 x0 x1 x2 x3 = (cond (decide (x1 < ((List.length x2 : Nat) : Int))) (cond (decide ((0 : Int) ≤ x1)) (cond (decide (x1 < ((List.length x2 : Nat) : Int))) (cond (decide ((Int.toNat x1) < List.length x2)) (cond (t20_ok ((List.getD x2 (Int.toNat x1) (Tc.dflt tItem)).1, ((List.getD x2 (Int.toNat x1) (Tc.dflt tItem)).2.1, ((List.getD x2 (Int.toNat x1) (Tc.dflt tItem)).2.2.1, (List.getD x2 (Int.toNat x1) (Tc.dflt tItem)).2.2.2))) x3) (cond (!(t20_0 ((List.getD x2 (Int.toNat x1) (Tc.dflt tItem)).1, ((List.getD x2 (Int.toNat x1) (Tc.dflt tItem)).2.1, ((List.getD x2 (Int.toNat x1) (Tc.dflt tItem)).2.2.1, (List.getD x2 (Int.toNat x1) (Tc.dflt tItem)).2.2.2))) x3)) (cond (decide ((0 : Int) ≤ x0)) (cond (decide (x0 < ((List.length x2 : Nat) : Int))) (cond (decide ((Int.toNat x0) < List.length x2)) (f18h0 (wrap .i64 (x0 + (1 : Int))) (wrap .i64 (x1 + (1 : Int))) (List.set x2 (Int.toNat x0) ((List.getD x2 (Int.toNat x1) (Tc.dflt tItem)).1, ((List.getD x2 (Int.toNat x1) (Tc.dflt tItem)).2.1, ((List.getD x2 (Int.toNat x1) (Tc.dflt tItem)).2.2.1, (List.getD x2 (Int.toNat x1) (Tc.dflt tItem)).2.2.2)))) x3) none) none) none) (f18h0 x0 (wrap .i64 (x1 + (1 : Int))) x2 x3)) none) none) none) none) (cond (decide ((0 : Int) ≤ x0)) (cond (decide (x0 < ((List.length x2 : Nat) : Int))) (cond (decide ((Int.toNat x0) < List.length x2)) (cond (decide ((0 : Int) ≤ (0 : Int))) (cond (decide ((0 : Int) ≤ x0)) (cond (decide (x0 ≤ ((List.length (List.take (Int.toNat x0) x2 ++ List.replicate (List.length x2 - (Int.toNat x0)) (Tc.dflt tItem)) : Nat) : Int))) (some ⟨[.slc 4], [(0, .dead), (1, .box [.dat (.slice .str) x3]), (4, .arr tItem (List.drop (Int.toNat (0 : Int)) (List.take (Int.toNat x0) (List.take (Int.toNat x0) x2 ++ List.replicate (List.length x2 - (Int.toNat x0)) (Tc.dflt tItem)))))]⟩) none) none) none) none) none) none)) := hdEq (by kernel_rfl)
theorem f42_run (a0 : Int) (a1 : Int) (a2 : Int) : I42.run ⟨[.dat tI a0, .dat tI a1, .dat tI a2], []⟩ = (cond (decide (a0 < a1)) (some ⟨[.dat .bool true], []⟩) (some ⟨[.dat .bool (decide (a0 > a2))], []⟩)) := (I42.run_eq _).trans (by kernel_rfl)
theorem f80_run (a0 : Item) (k : Bytes) (pl : Bytes) (lg : Int) (ps : (List Bytes)) : I80.run ⟨[.dat tItem a0, .ptr 0 0], [(0, .box [.dat .str k, .dat .str pl, .dat tI lg, .dat (.slice .str) ps])]⟩ = (some ⟨[.dat .bool (a0.1 == k)], [(0, .box [.dat .str k, .dat .str pl, .dat tI lg, .dat (.slice .str) ps])]⟩) := (I80.run_eq _).trans (by kernel_rfl)
noncomputable def f44ah0 (x0 : (List Item)) (x1 : Int) (x2 : Int) (x3 : Bytes) (x4 : Bytes) (x5 : Int) (x6 : (List Bytes)) : Option Fr := I44a.hd 0 (mkF 19 [(0, .dat (.slice tItem) x0), (1, .clos 80 [.ptr 0 0]), (7, .dat tI x1), (8, .dat tI x2)] [(0, .box [.dat .str x3, .dat .str x4, .dat tI x5, .dat (.slice .str) x6])])
theorem f44a_run (a0 : (List Item)) (k : Bytes) (pl : Bytes) (lg : Int) (ps : (List Bytes)) : I44a.run ⟨[.dat (.slice tItem) a0, .clos 80 [.ptr 0 0]], [(0, .box [.dat .str k, .dat .str pl, .dat tI lg, .dat (.slice .str) ps])]⟩ = (f44ah0 a0 ((List.length a0 : Nat) : Int) (0 : Int) k pl lg ps) := (I44a.run_eq _).trans (by kernel_rfl)
theorem f44ah0_eq (x0 : (List Item)) (x1 : Int) (x2 : Int) (x3 : Bytes) (x4 : Bytes) (x5 : Int) (x6 : (List Bytes)) : f44ah0 x0 x1 x2 x3 x4 x5 x6 = (cond (decide (x2 < x1)) (cond (decide ((0 : Int) ≤ x2)) (cond (decide (x2 < ((List.length x0 : Nat) : Int))) (cond (t80_0 (List.getD x0 (Int.toNat x2) (Tc.dflt tItem)) x3 x4 x5 x6) (some ⟨[.dat tI x2], [(0, .box [.dat .str x3, .dat .str x4, .dat tI x5, .dat (.slice .str) x6])]⟩) (f44ah0 x0 x1 (wrap .i64 (x2 + (1 : Int))) x3 x4 x5 x6)) none) none) (some ⟨[.dat tI (-1 : Int)], [(0, .box [.dat .str x3, .dat .str x4, .dat tI x5, .dat (.slice .str) x6])]⟩)) := hdEq (by kernel_rfl)
theorem f79_run (a0 : (List Item)) (k : Bytes) (pl : Bytes) (lg : Int) (ps : (List Bytes)) : I79.run ⟨[.dat (.slice tItem) a0, .clos 80 [.ptr 0 0]], [(0, .box [.dat .str k, .dat .str pl, .dat tI lg, .dat (.slice .str) ps])]⟩ = (cond (decide (List.length a0 ≤ 1000)) (some ⟨[.dat .bool (decide ((idxBy (fun o => t80_0 o k pl lg ps) a0 0) ≥ (0 : Int)))], [(0, .box [.dat .str (k), .dat .str (pl), .dat tI (lg), .dat (.slice .str) (ps)])]⟩) none) := (I79.run_eq _).trans (by kernel_rfl)
theorem f78_run (a0 : Bytes) : I78.run ⟨[.dat .str a0], []⟩ = (cond (!(a0 == [])) (cond (decide (((List.length a0 : Nat) : Int) ≤ (40 : Int))) (cond (decide ((0 : Int) ≤ (0 : Int))) (cond (decide ((0 : Int) < ((List.length a0 : Nat) : Int))) (cond (decide ((indexB [97, 98, 99, 100, 101, 102, 103, 104, 105, 106, 107, 108, 109, 110, 111, 112, 113, 114, 115, 116, 117, 118, 119, 120, 121, 122] ((UInt8.toNat (List.getD a0 (Int.toNat (0 : Int)) 0) : Nat) : Int)) ≥ (0 : Int))) (cond (trimOk a0 [97, 98, 99, 100, 101, 102, 103, 104, 105, 106, 107, 108, 109, 110, 111, 112, 113, 114, 115, 116, 117, 118, 119, 120, 121, 122, 48, 49, 50, 51, 52, 53, 54, 55, 56, 57, 45, 95]) (some ⟨[.dat .bool ((trimB a0 [97, 98, 99, 100, 101, 102, 103, 104, 105, 106, 107, 108, 109, 110, 111, 112, 113, 114, 115, 116, 117, 118, 119, 120, 121, 122, 48, 49, 50, 51, 52, 53, 54, 55, 56, 57, 45, 95]) == [])], []⟩) none) (some ⟨[.dat .bool false], []⟩)) none) none) (some ⟨[.dat .bool false], []⟩)) (some ⟨[.dat .bool false], []⟩)) := (I78.run_eq _).trans (by kernel_rfl)
noncomputable def f81h0 (x0 : (List Bytes)) (x1 : (List Bytes)) (x2 : Int) (x3 : Int) : Option Fr := I81.hd 0 (mkF 33 [(0, .dat (.slice .str) x0), (11, .dat (.slice .str) x1), (12, .dat tI x2), (13, .dat tI x3)] [])
theorem f81_run (a0 : (List Bytes)) : I81.run ⟨[.dat (.slice .str) a0], []⟩ = (cond (((List.length a0 : Nat) : Int) == (0 : Int)) (some ⟨[.dat tI (8 : Int)], []⟩) (cond (decide (((List.length a0 : Nat) : Int) > (12 : Int))) (some ⟨[.dat tI (2 : Int)], []⟩) (f81h0 a0 a0 ((List.length a0 : Nat) : Int) (0 : Int)))) := (I81.run_eq _).trans (by kernel_rfl)
theorem f81h0_eq (x0 : (List Bytes)) (x1 : (List Bytes)) (x2 : Int) (x3 : Int) : f81h0 x0 x1 x2 x3 = (cond (decide (x3 < x2)) (cond (decide ((0 : Int) ≤ x3)) (cond (decide (x3 < ((List.length x1 : Nat) : Int))) (cond (!(isKey (List.getD x1 (Int.toNat x3) (Tc.dflt .str)))) (some ⟨[.dat tI (5 : Int)], []⟩) (cond (decide (x3 > (0 : Int))) (cond (decide ((0 : Int) ≤ (wrap .i64 (x3 - (1 : Int))))) (cond (decide ((wrap .i64 (x3 - (1 : Int))) < ((List.length x0 : Nat) : Int))) (cond (bLess (List.getD x1 (Int.toNat x3) (Tc.dflt .str)) (List.getD x0 (Int.toNat (wrap .i64 (x3 - (1 : Int)))) (Tc.dflt .str)) || (List.getD x1 (Int.toNat x3) (Tc.dflt .str)) == (List.getD x0 (Int.toNat (wrap .i64 (x3 - (1 : Int)))) (Tc.dflt .str))) (some ⟨[.dat tI (7 : Int)], []⟩) (f81h0 x0 x1 x2 (wrap .i64 (x3 + (1 : Int))))) none) none) (f81h0 x0 x1 x2 (wrap .i64 (x3 + (1 : Int)))))) none) none) (some ⟨[.dat tI (0 : Int)], []⟩)) := hdEq (by kernel_rfl)
noncomputable def f55h0 (x0 : (List Item)) (x1 : (List Item)) (x2 : Int) (x3 : Int) : Option Fr := I55.hd 0 (mkF 44 [(0, .dat (.slice tItem) x0), (9, .dat (.slice tItem) x1), (10, .dat tI x2), (11, .dat tI x3)] [])
theorem f55_run (a0 : (List Item)) : I55.run ⟨[.dat (.slice tItem) a0], []⟩ = (cond (decide (((List.length a0 : Nat) : Int) > (60 : Int))) (some ⟨[.dat tI (2 : Int)], []⟩) (f55h0 a0 a0 ((List.length a0 : Nat) : Int) (0 : Int))) := (I55.run_eq _).trans (by kernel_rfl)
theorem f55h0_eq (x0 : (List Item)) (x1 : (List Item)) (x2 : Int) (x3 : Int) : f55h0 x0 x1 x2 x3 = (cond (decide (x3 < x2)) (cond (decide ((0 : Int) ≤ x3)) (cond (decide (x3 < ((List.length x1 : Nat) : Int))) (cond (!(isKey (List.getD x1 (Int.toNat x3) (Tc.dflt tItem)).1)) (some ⟨[.dat tI (5 : Int)], []⟩) (cond (!(isKey (List.getD x1 (Int.toNat x3) (Tc.dflt tItem)).2.1)) (some ⟨[.dat tI (5 : Int)], []⟩) (cond (decide ((0 : Int) ≤ (0 : Int))) (cond (decide ((0 : Int) ≤ x3)) (cond (decide (x3 ≤ ((List.length x0 : Nat) : Int))) (cond (t79_ok (List.drop (Int.toNat (0 : Int)) (List.take (Int.toNat x3) x0)) (List.getD x1 (Int.toNat x3) (Tc.dflt tItem)).1 (List.getD x1 (Int.toNat x3) (Tc.dflt tItem)).2.1 (List.getD x1 (Int.toNat x3) (Tc.dflt tItem)).2.2.1 (List.getD x1 (Int.toNat x3) (Tc.dflt tItem)).2.2.2) (cond (t79_0 (List.drop (Int.toNat (0 : Int)) (List.take (Int.toNat x3) x0)) (List.getD x1 (Int.toNat x3) (Tc.dflt tItem)).1 (List.getD x1 (Int.toNat x3) (Tc.dflt tItem)).2.1 (List.getD x1 (Int.toNat x3) (Tc.dflt tItem)).2.2.1 (List.getD x1 (Int.toNat x3) (Tc.dflt tItem)).2.2.2) (some ⟨[.dat tI (6 : Int)], []⟩) (cond (outside (List.getD x1 (Int.toNat x3) (Tc.dflt tItem)).2.2.1 (1 : Int) (86400000 : Int)) (some ⟨[.dat tI (1 : Int)], []⟩) (cond ((partsF isKey (List.getD x1 (Int.toNat x3) (Tc.dflt tItem)).2.2.2) != (0 : Int)) (some ⟨[.dat tI (partsF isKey (List.getD x1 (Int.toNat x3) (Tc.dflt tItem)).2.2.2)], []⟩) (f55h0 x0 x1 x2 (wrap .i64 (x3 + (1 : Int))))))) none) none) none) none))) none) none) (some ⟨[.dat tI (0 : Int)], []⟩)) := hdEq (by kernel_rfl)
theorem f34_run (a0 : Prgm) : I34.run ⟨[.dat tPrgm a0], []⟩ = (cond ((checkItems isKey a0.1) != (0 : Int)) (some ⟨[.dat tI (checkItems isKey a0.1)], []⟩) (cond (outside a0.2.1 (0 : Int) (86400000 : Int)) (some ⟨[.dat tI (1 : Int)], []⟩) (cond (outside a0.2.2.1 (0 : Int) (86400000 : Int)) (some ⟨[.dat tI (1 : Int)], []⟩) (cond (outside a0.2.2.2.1 (0 : Int) (86400000 : Int)) (some ⟨[.dat tI (1 : Int)], []⟩) (cond (outside a0.2.2.2.2 (-1 : Int) (if (-1 : Int) < (wrap .i64 (((List.length a0.1 : Nat) : Int) - (2 : Int))) then (wrap .i64 (((List.length a0.1 : Nat) : Int) - (2 : Int))) else (-1 : Int))) (some ⟨[.dat tI (1 : Int)], []⟩) (some ⟨[.dat tI (0 : Int)], []⟩)))))) := (I34.run_eq _).trans (by kernel_rfl)
theorem f98_run (a0 : Prgm) (a1 : Item) (a2 : Item) : I98.run ⟨[.dat tPrgm a0, .dat tItem a1, .dat tItem a2], []⟩ = (cond (!(a1.2.1 == a2.2.1)) (some ⟨[.dat tI a0.2.1], []⟩) (some ⟨[.dat tI a0.2.2.1], []⟩)) := (I98.run_eq _).trans (by kernel_rfl)
theorem f72_run (a0 : Prgm) (a1 : Int) : I72.run ⟨[.dat tPrgm a0, .dat tI a1], []⟩ = (cond (a1 == a0.2.2.2.2) (some ⟨[.dat tI a0.2.2.2.1], []⟩) (cond (decide ((0 : Int) ≤ a1)) (cond (decide (a1 < ((List.length a0.1 : Nat) : Int))) (cond (decide ((0 : Int) ≤ (wrap .i64 (a1 + (1 : Int))))) (cond (decide ((wrap .i64 (a1 + (1 : Int))) < ((List.length a0.1 : Nat) : Int))) (some ⟨[.dat tI (t98_0 (a0.1, (a0.2.1, (a0.2.2.1, (a0.2.2.2.1, a0.2.2.2.2)))) (List.getD a0.1 (Int.toNat a1) (Tc.dflt tItem)) (List.getD a0.1 (Int.toNat (wrap .i64 (a1 + (1 : Int)))) (Tc.dflt tItem)))], []⟩) none) none) none) none)) := (I72.run_eq _).trans (by kernel_rfl)
noncomputable def f40h0 (x0 : Int) (x1 : (List Item)) (x2 : Int) (x3 : Int) (x4 : (List Item)) (x5 : Int) (x6 : Int) (x7 : Int) (x8 : Int) (x9 : (List Int)) : Option Fr := I40.hd 0 (mkF 38 [(1, .ptr 500 0), (4, .slc 501), (5, .dat tI x0), (9, .dat (.slice tItem) x1), (10, .dat tI x2), (11, .dat tI x3)] [(500, .box [.dat (.slice tItem) x4, .dat tI x5, .dat tI x6, .dat tI x7, .dat tI x8]), (501, .arr tI x9)])
theorem f40_run (a0 : Prgm) : I40.run ⟨[.dat tPrgm a0], []⟩ = (f40h0 (0 : Int) a0.1 ((List.length a0.1 : Nat) : Int) (0 : Int) a0.1 a0.2.1 a0.2.2.1 a0.2.2.2.1 a0.2.2.2.2 ([] : List Int)) := (I40.run_eq _).trans (by kernel_rfl)
theorem f40h0_eq (x0 : Int) (x1 : (List Item)) (x2 : Int) (x3 : Int) (x4 : (List Item)) (x5 : Int) (x6 : Int) (x7 : Int) (x8 : Int) (x9 : (List Int)) : f40h0 x0 x1 x2 x3 x4 x5 x6 x7 x8 x9 = (cond (decide (x3 < x2)) (cond (decide ((0 : Int) ≤ x3)) (cond (decide (x3 < ((List.length x1 : Nat) : Int))) (cond (decide ((List.length x9 + List.length [x0]) * 8 ≤ 140737488355328)) (cond (decide ((wrap .i64 (x3 + (1 : Int))) < ((List.length x4 : Nat) : Int))) (cond (decide (0 ≤ x3) && decide (x3 + 1 < (List.length (x4, (x5, (x6, (x7, x8)))).1 : Int)) && decide (List.length (x4, (x5, (x6, (x7, x8)))).1 ≤ 1000)) (f40h0 (wrap .i64 ((wrap .i64 (x0 + (List.getD x1 (Int.toNat x3) (Tc.dflt tItem)).2.2.1)) + (behindF (x4, (x5, (x6, (x7, x8)))) x3))) x1 x2 (wrap .i64 (x3 + (1 : Int))) x4 x5 x6 x7 x8 (x9 ++ [x0])) none) (f40h0 (wrap .i64 (x0 + (List.getD x1 (Int.toNat x3) (Tc.dflt tItem)).2.2.1)) x1 x2 (wrap .i64 (x3 + (1 : Int))) x4 x5 x6 x7 x8 (x9 ++ [x0]))) none) none) none) (some ⟨[.slc 0, .dat tI x0], [(0, .arr tI x9)]⟩)) := hdEq (by kernel_rfl)
theorem f11_run (a0 : Prgm) : I11.run ⟨[.dat tPrgm a0], []⟩ = (cond ((checkProg isKey (a0.1, (a0.2.1, (a0.2.2.1, (a0.2.2.2.1, a0.2.2.2.2))))) != (0 : Int)) (some ⟨[.dat tI (0 : Int), .dat tI (checkProg isKey (a0.1, (a0.2.1, (a0.2.2.1, (a0.2.2.2.1, a0.2.2.2.2)))))], []⟩) (cond (decide (List.length (a0.1, (a0.2.1, (a0.2.2.1, (a0.2.2.2.1, a0.2.2.2.2)))).1 ≤ 1000)) (some ⟨[.dat tI ((begGo (a0.1, (a0.2.1, (a0.2.2.1, (a0.2.2.2.1, a0.2.2.2.2)))) 0 0 (a0.1, (a0.2.1, (a0.2.2.1, (a0.2.2.2.1, a0.2.2.2.2)))).1).2), .dat tI (0 : Int)], []⟩) none)) := (I11.run_eq _).trans (by kernel_rfl)
theorem f19_run (a0 : (List Item)) : I19.run ⟨[.dat (.slice tItem) a0], []⟩ = (cond (List.isEmpty a0) (both (some ⟨[.slc 0], [(0, .arr tItem ([] : List Item))]⟩) (cond (decide ((List.length ([] : List Item) + List.length a0) * 64 ≤ 140737488355328)) (some ⟨[.slc 0], [(0, .arr tItem (([] : List Item) ++ a0))]⟩) none)) (cond (decide ((List.length ([] : List Item) + List.length a0) * 64 ≤ 140737488355328)) (some ⟨[.slc 0], [(0, .arr tItem (([] : List Item) ++ a0))]⟩) none)) := (I19.run_eq _).trans (by kernel_rfl)
theorem f17_run (a0 : (List Bytes)) (c1 : Int) (c2 : Int) (c3 : Int) (c4 : Int) (its : (List Item)) : I17.run ⟨[.dat (.slice .str) a0, .ptr 0 0], [(0, .box [.slc 1, .dat tI c1, .dat tI c2, .dat tI c3, .dat tI c4]), (1, .frz tItem its)]⟩ = (cond (decide (List.length its ≤ 1000)) (cond (decide (List.length (its) ≤ 1000) && decide (List.length a0 ≤ 1000)) (cond (((longP ((List.filter (fun o => !t20_0 o a0) (its)), (c1, (c2, (c3, (-1 : Int)))))).2) != (0 : Int)) (some ⟨[.dat tI (-1 : Int)], [(0, .box [.slc 1, .dat tI c1, .dat tI c2, .dat tI c3, .dat tI c4]), (1, .frz tItem its)]⟩) (cond (((List.length (List.filter (fun o => !t20_0 o a0) (its)) : Nat) : Int) != ((List.length (a0) : Nat) : Int)) (some ⟨[.dat tI (-1 : Int)], [(0, .box [.slc 1, .dat tI c1, .dat tI c2, .dat tI c3, .dat tI c4]), (1, .frz tItem its)]⟩) (some ⟨[.dat tI ((longP ((List.filter (fun o => !t20_0 o a0) (its)), (c1, (c2, (c3, (-1 : Int)))))).1)], [(0, .box [.slc 1, .dat tI c1, .dat tI c2, .dat tI c3, .dat tI c4]), (1, .frz tItem its)]⟩))) none) none) := (I17.run_eq _).trans (by kernel_rfl)
theorem f54_run (a0 : Int) (a1 : Int) : I54.run ⟨[.dat tI a0, .dat tI a1], []⟩ = (cond (decide (a1 < (1 : Int))) (some ⟨[.dat tI (0 : Int)], []⟩) (cond (a1 == 0) none (cond (decide ((Int.tmod a0 a1) < (0 : Int))) (some ⟨[.dat tI (wrap .i64 ((Int.tmod a0 a1) + a1))], []⟩) (some ⟨[.dat tI (Int.tmod a0 a1)], []⟩)))) := (I54.run_eq _).trans (by kernel_rfl)
theorem f33_run (a0 : Int) (L : (List Int)) (at_ : Int) : I33.run ⟨[.ptr 0 0, .dat tI a0], [(0, .box [.dat (.slice tI) L, .dat tI at_])]⟩ = (cond (((List.length L : Nat) : Int) == (0 : Int)) (some ⟨[.dat tI (below (wrap .i64 ((wrap .i64 (at_ + (1 : Int))) * (7919 : Int))) a0)], [(0, .box [.dat (.slice tI) L, .dat tI (wrap .i64 (at_ + (1 : Int)))])]⟩) (cond (((List.length L : Nat) : Int) == 0) none (cond (((List.length L : Nat) : Int) == 0) none (cond (decide ((0 : Int) ≤ (Int.tmod (wrap .i64 ((wrap .i64 (at_ + (1 : Int))) - (1 : Int))) ((List.length L : Nat) : Int)))) (cond (decide ((Int.tmod (wrap .i64 ((wrap .i64 (at_ + (1 : Int))) - (1 : Int))) ((List.length L : Nat) : Int)) < ((List.length L : Nat) : Int))) (some ⟨[.dat tI (below (wrap .i64 ((below (List.getD L (Int.toNat (Int.tmod (wrap .i64 ((wrap .i64 (at_ + (1 : Int))) - (1 : Int))) ((List.length L : Nat) : Int))) (Tc.dflt tI)) (1073741824 : Int)) + (wrap .i64 ((wrap .i64 (Int.tdiv (wrap .i64 ((wrap .i64 (at_ + (1 : Int))) - (1 : Int))) ((List.length L : Nat) : Int))) * (wrap .i64 ((7919 : Int) + (Int.tmod (wrap .i64 ((wrap .i64 (at_ + (1 : Int))) - (1 : Int))) ((List.length L : Nat) : Int)))))))) a0)], [(0, .box [.dat (.slice tI) L, .dat tI (wrap .i64 (at_ + (1 : Int)))])]⟩) none) none)))) := (I33.run_eq _).trans (by kernel_rfl)
theorem f30_run (a0 : (List Int)) (L : (List Int)) (at_ : Int) : I30.run ⟨[.ptr 0 0, .dat (.slice tI) a0], [(0, .box [.dat (.slice tI) L, .dat tI at_])]⟩ = (cond (atOk 1 at_) (cond (decide ((0 : Int) ≤ (next L at_ ((List.length a0 : Nat) : Int)))) (cond (decide ((next L at_ ((List.length a0 : Nat) : Int)) < ((List.length a0 : Nat) : Int))) (some ⟨[.dat tI (List.getD a0 (Int.toNat (next L at_ ((List.length a0 : Nat) : Int))) (Tc.dflt tI))], [(0, .box [.dat (.slice tI) (L), .dat tI (nextAt at_)])]⟩) none) none) none) := (I30.run_eq _).trans (by kernel_rfl)
theorem f31_run (a0 : Int) (L : (List Int)) (at_ : Int) : I31.run ⟨[.ptr 0 0, .dat tI a0], [(0, .box [.dat (.slice tI) L, .dat tI at_])]⟩ = (cond (atOk 1 at_) (some ⟨[.dat .bool ((next L at_ a0) == (0 : Int))], [(0, .box [.dat (.slice tI) (L), .dat tI (nextAt at_)])]⟩) none) := (I31.run_eq _).trans (by kernel_rfl)
theorem f32_run (a0 : (List Bytes)) (L : (List Int)) (at_ : Int) : I32.run ⟨[.ptr 0 0, .dat (.slice .str) a0], [(0, .box [.dat (.slice tI) L, .dat tI at_])]⟩ = (cond (atOk 1 at_) (cond (decide ((0 : Int) ≤ (next L at_ ((List.length a0 : Nat) : Int)))) (cond (decide ((next L at_ ((List.length a0 : Nat) : Int)) < ((List.length a0 : Nat) : Int))) (some ⟨[.dat .str (List.getD a0 (Int.toNat (next L at_ ((List.length a0 : Nat) : Int))) (Tc.dflt .str))], [(0, .box [.dat (.slice tI) (L), .dat tI (nextAt at_)])]⟩) none) none) none) := (I32.run_eq _).trans (by kernel_rfl)
noncomputable def f8h0 (x0 : (List Bytes)) (x1 : Int) (x2 : Int) (x3 : (List Int)) (x4 : Int) (x5 : Int) (x6 : Int) (x7 : Int) (x8 : Int) (x9 : Int) (x10 : Int) (x11 : Int) (x12 : Int) (x13 : (List Item)) : Option Fr := I8.hd 0 (mkF 83 [(0, .ptr 0 0), (4, .ptr 501 0), (5, .ptr 502 0), (23, .dat (.slice .str) x0), (24, .dat tI x1), (25, .dat tI x2)] [(0, .box [.dat (.slice tI) x3, .dat tI x4]), (501, .box [.nil0, .dat tI x5, .dat tI x6, .dat tI x7, .dat tI x8]), (502, .box [.slc 503, .dat tI x9, .dat tI x10, .dat tI x11, .dat tI x12]), (503, .arr tItem x13)])
noncomputable def f8h2 (x0 : (List Bytes)) (x1 : Int) (x2 : Int) (x3 : Int) (x4 : Int) (x5 : (List Int)) (x6 : Int) (x7 : Int) (x8 : Int) (x9 : Int) (x10 : Int) (x11 : Int) (x12 : Int) (x13 : Int) (x14 : Int) (x15 : Bytes) (x16 : Bytes) (x17 : Int) (x18 : (List Bytes)) (x19 : (List Item)) (x20 : (List Bytes)) : Option Fr := I8.hd 2 (mkF 83 [(0, .ptr 0 0), (4, .ptr 501 0), (5, .ptr 502 0), (8, .ptr 503 0), (23, .dat (.slice .str) x0), (24, .dat tI x1), (25, .dat tI x2), (39, .slc 504), (40, .dat tI x3), (41, .dat tI x4)] [(0, .box [.dat (.slice tI) x5, .dat tI x6]), (501, .box [.nil0, .dat tI x7, .dat tI x8, .dat tI x9, .dat tI x10]), (502, .box [.slc 505, .dat tI x11, .dat tI x12, .dat tI x13, .dat tI x14]), (503, .box [.dat .str x15, .dat .str x16, .dat tI x17, .slc 506]), (504, .arr .str x18), (505, .arr tItem x19), (506, .arr .str x20)])
theorem f8_run (a0 : Int) (L : (List Int)) (at_ : Int) : I8.run ⟨[.ptr 0 0, .dat tI a0], [(0, .box [.dat (.slice tI) L, .dat tI at_])]⟩ = (cond (atOk 1 at_ && decide (0 < List.length [(0 : Int), (30 : Int), (50 : Int)]) && decide (List.length [(0 : Int), (30 : Int), (50 : Int)] ≤ 1000)) (cond (atOk 1 (nextAt at_) && decide (0 < List.length [(0 : Int), (10 : Int), (30 : Int)]) && decide (List.length [(0 : Int), (10 : Int), (30 : Int)] ≤ 1000)) (cond (atOk 1 (nextAt (nextAt at_)) && decide (0 < List.length [(0 : Int), (100 : Int)]) && decide (List.length [(0 : Int), (100 : Int)] ≤ 1000)) (cond (decide ((0 : Int) ≤ (0 : Int))) (cond (decide ((0 : Int) ≤ a0)) (cond (decide (a0 ≤ ((List.length ([[99], [97], [100], [98], [101]] : List Bytes) : Nat) : Int))) (f8h0 (List.drop (Int.toNat (0 : Int)) (List.take (Int.toNat a0) ([[99], [97], [100], [98], [101]] : List Bytes))) ((List.length (List.drop (Int.toNat (0 : Int)) (List.take (Int.toNat a0) ([[99], [97], [100], [98], [101]] : List Bytes))) : Nat) : Int) (0 : Int) (((L))) (nextAt (nextAt (nextAt at_))) (0 : Int) (0 : Int) (0 : Int) (0 : Int) (pick L at_ [(0 : Int), (30 : Int), (50 : Int)]) (pick (L) (nextAt at_) [(0 : Int), (10 : Int), (30 : Int)]) (pick ((L)) (nextAt (nextAt at_)) [(0 : Int), (100 : Int)]) (-1 : Int) ([] : List Item)) none) none) none) none) none) none) := (I8.run_eq _).trans (by kernel_rfl)
theorem f8h0_eq (x0 : (List Bytes)) (x1 : Int) (x2 : Int) (x3 : (List Int)) (x4 : Int) (x5 : Int) (x6 : Int) (x7 : Int) (x8 : Int) (x9 : Int) (x10 : Int) (x11 : Int) (x12 : Int) (x13 : (List Item)) : f8h0 x0 x1 x2 x3 x4 x5 x6 x7 x8 x9 x10 x11 x12 x13 = (cond (decide (x2 < x1)) (cond (decide ((0 : Int) ≤ x2)) (cond (decide (x2 < ((List.length x0 : Nat) : Int))) (cond (atOk 1 x4) (cond (next x3 x4 (6 : Int) == 0) (f8h0 x0 x1 (wrap .i64 (x2 + (1 : Int))) (x3) (nextAt x4) x5 x6 x7 x8 x9 x10 x11 x12 x13) (cond (atOk 1 (nextAt x4) && decide (0 < List.length ([[114, 111, 119, 115], [114, 111, 119, 115], [99, 105, 114, 99, 108, 101]] : List Bytes)) && decide (List.length ([[114, 111, 119, 115], [114, 111, 119, 115], [99, 105, 114, 99, 108, 101]] : List Bytes) ≤ 1000)) (cond (atOk 1 (nextAt (nextAt x4)) && decide (0 < List.length [(50 : Int), (100 : Int), (100 : Int), (200 : Int)]) && decide (List.length [(50 : Int), (100 : Int), (100 : Int), (200 : Int)] ≤ 1000)) (f8h2 x0 x1 x2 ((List.length ([[97, 108, 116, 111], [98, 97, 115, 115], [115, 111, 108, 105]] : List Bytes) : Nat) : Int) (0 : Int) (((x3))) (nextAt (nextAt (nextAt x4))) x5 x6 x7 x8 x9 x10 x11 x12 (List.getD x0 (Int.toNat x2) (Tc.dflt .str)) (some_ (x3) (nextAt x4) ([[114, 111, 119, 115], [114, 111, 119, 115], [99, 105, 114, 99, 108, 101]] : List Bytes)) (pick ((x3)) (nextAt (nextAt x4)) [(50 : Int), (100 : Int), (100 : Int), (200 : Int)]) ([[97, 108, 116, 111], [98, 97, 115, 115], [115, 111, 108, 105]] : List Bytes) x13 ([] : List Bytes)) none) none)) none) none) none) (cond (decide (((List.length x13 : Nat) : Int) > (1 : Int))) (cond (atOk 1 x4) (cond (next x3 x4 (2 : Int) == 0) (cond (atOk 1 (nextAt x4)) (some ⟨[.agg [.slc 2, .dat tI x9, .dat tI x10, .dat tI x11, .dat tI (next (x3) (nextAt x4) (wrap .i64 (((List.length x13 : Nat) : Int) - (1 : Int))))]], [(0, .box [.dat (.slice tI) ((x3)), .dat tI (nextAt (nextAt x4))]), (2, .arr tItem x13)]⟩) none) (some ⟨[.agg [.slc 2, .dat tI x9, .dat tI x10, .dat tI x11, .dat tI x12]], [(0, .box [.dat (.slice tI) (x3), .dat tI (nextAt x4)]), (2, .arr tItem x13)]⟩)) none) (some ⟨[.agg [.slc 2, .dat tI x9, .dat tI x10, .dat tI x11, .dat tI x12]], [(0, .box [.dat (.slice tI) x3, .dat tI x4]), (2, .arr tItem x13)]⟩))) := hdEq (by kernel_rfl)
theorem f8h2_eq (x0 : (List Bytes)) (x1 : Int) (x2 : Int) (x3 : Int) (x4 : Int) (x5 : (List Int)) (x6 : Int) (x7 : Int) (x8 : Int) (x9 : Int) (x10 : Int) (x11 : Int) (x12 : Int) (x13 : Int) (x14 : Int) (x15 : Bytes) (x16 : Bytes) (x17 : Int) (x18 : (List Bytes)) (x19 : (List Item)) (x20 : (List Bytes)) : f8h2 x0 x1 x2 x3 x4 x5 x6 x7 x8 x9 x10 x11 x12 x13 x14 x15 x16 x17 x18 x19 x20 = (cond (decide (x4 < x3)) (cond (decide ((0 : Int) ≤ x4)) (cond (decide (x4 < ((List.length x18 : Nat) : Int))) (cond (decide ((Int.toNat x4) < List.length x18)) (cond (atOk 1 x6) (cond (next x5 x6 (2 : Int) == 0) (cond (decide ((List.length x20 + List.length ([(List.getD x18 (Int.toNat x4) (Tc.dflt .str))] : List Bytes)) * 16 ≤ 140737488355328)) (f8h2 x0 x1 x2 x3 (wrap .i64 (x4 + (1 : Int))) (x5) (nextAt x6) x7 x8 x9 x10 x11 x12 x13 x14 x15 x16 x17 x18 x19 (x20 ++ ([(List.getD x18 (Int.toNat x4) (Tc.dflt .str))] : List Bytes))) none) (f8h2 x0 x1 x2 x3 (wrap .i64 (x4 + (1 : Int))) (x5) (nextAt x6) x7 x8 x9 x10 x11 x12 x13 x14 x15 x16 x17 x18 x19 x20)) none) none) none) none) (cond (((List.length x20 : Nat) : Int) == (0 : Int)) (cond (decide ((List.length x19 + List.length ([(x15, (x16, (x17, ([[97, 108, 116, 111]] : List Bytes))))] : List Item)) * 64 ≤ 140737488355328)) (f8h0 x0 x1 (wrap .i64 (x2 + (1 : Int))) x5 x6 x7 x8 x9 x10 x11 x12 x13 x14 (x19 ++ ([(x15, (x16, (x17, ([[97, 108, 116, 111]] : List Bytes))))] : List Item))) none) (cond (decide ((List.length x19 + List.length ([(x15, (x16, (x17, x20)))] : List Item)) * 64 ≤ 140737488355328)) (f8h0 x0 x1 (wrap .i64 (x2 + (1 : Int))) x5 x6 x7 x8 x9 x10 x11 x12 x13 x14 (x19 ++ ([(x15, (x16, (x17, x20)))] : List Item))) none))) := hdEq (by kernel_rfl)
theorem f13_run (a0 : Int) (a1 : Int) (L : (List Int)) (at_ : Int) : I13.run ⟨[.ptr 0 0, .dat tI a0, .dat tI a1], [(0, .box [.dat (.slice tI) L, .dat tI at_])]⟩ = (cond (decide (a1 < a0)) (some ⟨[.dat tI a0], [(0, .box [.dat (.slice tI) L, .dat tI at_])]⟩) (cond (atOk 1 at_) (some ⟨[.dat tI (wrap .i64 (a0 + (next L at_ (wrap .i64 ((wrap .i64 (a1 - a0)) + (1 : Int))))))], [(0, .box [.dat (.slice tI) (L), .dat tI (nextAt at_)])]⟩) none)) := (I13.run_eq _).trans (by kernel_rfl)
theorem f35_run (a0 : Prgm) (a1 : (List Item)) : I35.run ⟨[.dat tPrgm a0, .dat (.slice tItem) a1], []⟩ = (cond (decide (List.length (a1, (a0.2.1, (a0.2.2.1, (a0.2.2.2.1, (-1 : Int))))).1 ≤ 1000)) (some ⟨[.dat tI ((begGo (a1, (a0.2.1, (a0.2.2.1, (a0.2.2.2.1, (-1 : Int))))) 0 0 (a1, (a0.2.1, (a0.2.2.1, (a0.2.2.2.1, (-1 : Int))))).1).2)], []⟩) none) := (I35.run_eq _).trans (by kernel_rfl)
theorem f99_run (a0 : Int) : I99.run ⟨[.dat tI a0], []⟩ = (some ⟨[.dat .bool (a0 != a0)], []⟩) := (I99.run_eq _).trans (by kernel_rfl)
theorem f73_run (a0 : Int) (a1 : Int) : I73.run ⟨[.dat tI a0, .dat tI a1], []⟩ = (cond (t99_0 a0) (cond (t99_0 a1) (some ⟨[.dat tI (0 : Int)], []⟩) (some ⟨[.dat tI (-1 : Int)], []⟩)) (cond (t99_0 a1) (some ⟨[.dat tI (1 : Int)], []⟩) (cond (decide (a0 < a1)) (some ⟨[.dat tI (-1 : Int)], []⟩) (cond (decide (a0 > a1)) (some ⟨[.dat tI (1 : Int)], []⟩) (some ⟨[.dat tI (0 : Int)], []⟩))))) := (I73.run_eq _).trans (by kernel_rfl)
noncomputable def f43h0 (x0 : (List Int)) (x1 : (List Int)) (x2 : (List Int)) (x3 : Int) (x4 : Int) : Option Fr := I43.hd 0 (mkF 36 [(0, .dat (.slice tI) x0), (1, .dat (.slice tI) x1), (9, .dat (.slice tI) x2), (10, .dat tI x3), (11, .dat tI x4)] [])
theorem f43_run (a0 : (List Int)) (a1 : (List Int)) : I43.run ⟨[.dat (.slice tI) a0, .dat (.slice tI) a1], []⟩ = (f43h0 a0 a1 a0 ((List.length a0 : Nat) : Int) (0 : Int)) := (I43.run_eq _).trans (by kernel_rfl)
theorem f43h0_eq (x0 : (List Int)) (x1 : (List Int)) (x2 : (List Int)) (x3 : Int) (x4 : Int) : f43h0 x0 x1 x2 x3 x4 = (cond (decide (x4 < x3)) (cond (decide ((0 : Int) ≤ x4)) (cond (decide (x4 < ((List.length x2 : Nat) : Int))) (cond (decide (x4 ≥ ((List.length x1 : Nat) : Int))) (some ⟨[.dat tI (1 : Int)], []⟩) (cond (decide ((0 : Int) ≤ x4)) (cond (decide (x4 < ((List.length x1 : Nat) : Int))) (cond ((t73_0 (List.getD x2 (Int.toNat x4) (Tc.dflt tI)) (List.getD x1 (Int.toNat x4) (Tc.dflt tI))) != (0 : Int)) (some ⟨[.dat tI (t73_0 (List.getD x2 (Int.toNat x4) (Tc.dflt tI)) (List.getD x1 (Int.toNat x4) (Tc.dflt tI)))], []⟩) (f43h0 x0 x1 x2 x3 (wrap .i64 (x4 + (1 : Int))))) none) none)) none) none) (cond (decide (((List.length x0 : Nat) : Int) < ((List.length x1 : Nat) : Int))) (some ⟨[.dat tI (-1 : Int)], []⟩) (some ⟨[.dat tI (0 : Int)], []⟩))) := hdEq (by kernel_rfl)
noncomputable def f16h0 (x0 : Int) (x1 : Int) (x2 : Int) (x3 : Int) (x4 : (List Item)) (x5 : Int) (x6 : Int) (x7 : Int) (x8 : Int) (x9 : (List Int)) : Option Fr := I16.hd 0 (mkF 114 [(1, .dat tI x0), (2, .ptr 500 0), (7, .slc 501), (8, .dat tI x1), (33, .dat tI x2), (34, .dat tI x3)] [(500, .box [.dat (.slice tItem) x4, .dat tI x5, .dat tI x6, .dat tI x7, .dat tI x8]), (501, .arr tI x9)])
noncomputable def f16h2 (x0 : Int) (x1 : Int) (x2 : Int) (x3 : Int) (x4 : Int) (x5 : (List Item)) (x6 : Int) (x7 : Int) (x8 : (List Item)) (x9 : Int) (x10 : Int) (x11 : Int) (x12 : Int) (x13 : (List Int)) (x14 : (List Item)) (x15 : (List Int)) : Option Fr := I16.hd 2 (mkF 114 [(1, .dat tI x0), (2, .ptr 500 0), (7, .slc 501), (8, .dat tI x1), (9, .dat tI x2), (10, .slc 502), (11, .slc 503), (33, .dat tI x3), (34, .dat tI x4), (38, .dat (.slice tItem) x5), (39, .dat tI x6), (40, .dat tI x7)] [(500, .box [.dat (.slice tItem) x8, .dat tI x9, .dat tI x10, .dat tI x11, .dat tI x12]), (501, .arr tI x13), (502, .arr tItem x14), (503, .arr tI x15)])
noncomputable def f16h4 (x0 : Int) (x1 : Int) (x2 : (List Item)) (x3 : Int) (x4 : Int) (x5 : Int) (x6 : Int) (x7 : (List Bytes)) (x8 : (List Int)) : Option Fr := I16.hd 4 (mkF 114 [(2, .ptr 500 0), (16, .slc 501), (97, .slc 502), (98, .dat tI x0), (99, .dat tI x1)] [(500, .box [.dat (.slice tItem) x2, .dat tI x3, .dat tI x4, .dat tI x5, .dat tI x6]), (501, .arr .str x7), (502, .arr tI x8)])
theorem f16_run (a0 : Prgm) (a1 : Int) : I16.run ⟨[.dat tPrgm a0, .dat tI a1], []⟩ = (cond ((checkProg isKey (a0.1, (a0.2.1, (a0.2.2.1, (a0.2.2.2.1, a0.2.2.2.2))))) != (0 : Int)) (some ⟨[.dat (.slice .str) ([] : List Bytes), .dat tI (checkProg isKey (a0.1, (a0.2.1, (a0.2.2.1, (a0.2.2.2.1, a0.2.2.2.2)))))], []⟩) (cond (decide (((List.length a0.1 : Nat) : Int) > (16 : Int))) (some ⟨[.dat (.slice .str) ([] : List Bytes), .dat tI (2 : Int)], []⟩) (cond (outside a1 (0 : Int) (5184000000 : Int)) (some ⟨[.dat (.slice .str) ([] : List Bytes), .dat tI (1 : Int)], []⟩) (cond (decide (((List.length a0.1 : Nat) : Int) < 0)) none (f16h0 a1 (0 : Int) (wrap .i64 ((1 : Int) * 2 ^ (min (Int.toNat ((List.length a0.1 : Nat) : Int)) (IntKind.bits .i64)))) (0 : Int) a0.1 a0.2.1 a0.2.2.1 a0.2.2.2.1 a0.2.2.2.2 ([] : List Int)))))) := (I16.run_eq _).trans (by kernel_rfl)
theorem f16h0_eq (x0 : Int) (x1 : Int) (x2 : Int) (x3 : Int) (x4 : (List Item)) (x5 : Int) (x6 : Int) (x7 : Int) (x8 : Int) (x9 : (List Int)) : f16h0 x0 x1 x2 x3 x4 x5 x6 x7 x8 x9 = (cond (decide (x3 < x2)) (f16h2 x0 x1 x3 x2 x3 x4 ((List.length x4 : Nat) : Int) (0 : Int) x4 x5 x6 x7 x8 x9 ([] : List Item) ([] : List Int)) (f16h4 ((List.length x9 : Nat) : Int) (0 : Int) x4 x5 x6 x7 x8 ([] : List Bytes) x9)) := hdEq (by kernel_rfl)
theorem f16h2_eq (x0 : Int) (x1 : Int) (x2 : Int) (x3 : Int) (x4 : Int) (x5 : (List Item)) (x6 : Int) (x7 : Int) (x8 : (List Item)) (x9 : Int) (x10 : Int) (x11 : Int) (x12 : Int) (x13 : (List Int)) (x14 : (List Item)) (x15 : (List Int)) : f16h2 x0 x1 x2 x3 x4 x5 x6 x7 x8 x9 x10 x11 x12 x13 x14 x15 = (cond (decide (x7 < x6)) (cond (decide ((0 : Int) ≤ x7)) (cond (decide (x7 < ((List.length x5 : Nat) : Int))) (cond (decide (x7 < 0)) none (cond ((wrap .i64 ((BitVec.ofInt (IntKind.bits .i64) (Int.fdiv x2 (2 ^ (min (Int.toNat x7) (IntKind.bits .i64)))) &&& BitVec.ofInt (IntKind.bits .i64) (1 : Int)).toNat : Int)) == (1 : Int)) (cond (decide ((List.length x14 + List.length ([((List.getD x5 (Int.toNat x7) (Tc.dflt tItem)).1, ((List.getD x5 (Int.toNat x7) (Tc.dflt tItem)).2.1, ((List.getD x5 (Int.toNat x7) (Tc.dflt tItem)).2.2.1, (List.getD x5 (Int.toNat x7) (Tc.dflt tItem)).2.2.2)))] : List Item)) * 64 ≤ 140737488355328)) (cond (decide ((List.length x15 + List.length [x7]) * 8 ≤ 140737488355328)) (f16h2 x0 x1 x2 x3 x4 x5 x6 (wrap .i64 (x7 + (1 : Int))) x8 x9 x10 x11 x12 x13 (x14 ++ ([((List.getD x5 (Int.toNat x7) (Tc.dflt tItem)).1, ((List.getD x5 (Int.toNat x7) (Tc.dflt tItem)).2.1, ((List.getD x5 (Int.toNat x7) (Tc.dflt tItem)).2.2.1, (List.getD x5 (Int.toNat x7) (Tc.dflt tItem)).2.2.2)))] : List Item)) (x15 ++ [x7])) none) none) (f16h2 x0 x1 x2 x3 x4 x5 x6 (wrap .i64 (x7 + (1 : Int))) x8 x9 x10 x11 x12 x13 x14 x15))) none) none) (cond (t35_ok (x8, (x9, (x10, (x11, x12)))) x14) (cond (decide ((t35_0 (x8, (x9, (x10, (x11, x12)))) x14) ≤ x0)) (cond (decide ((wrap .i64 (((List.length x15 : Nat) : Int) - ((List.length x13 : Nat) : Int))) > (0 : Int))) (f16h0 x0 (t35_0 (x8, (x9, (x10, (x11, x12)))) x14) x3 (wrap .i64 (x4 + (1 : Int))) x8 x9 x10 x11 x12 x15) (cond ((wrap .i64 (((List.length x15 : Nat) : Int) - ((List.length x13 : Nat) : Int))) == (0 : Int)) (cond (decide ((t35_0 (x8, (x9, (x10, (x11, x12)))) x14) > x1)) (f16h0 x0 (t35_0 (x8, (x9, (x10, (x11, x12)))) x14) x3 (wrap .i64 (x4 + (1 : Int))) x8 x9 x10 x11 x12 x15) (cond ((t35_0 (x8, (x9, (x10, (x11, x12)))) x14) == x1) (cond (decide (List.length x15 ≤ 1000)) (cond (decide ((cmpGo x15 x13) < (0 : Int))) (f16h0 x0 (t35_0 (x8, (x9, (x10, (x11, x12)))) x14) x3 (wrap .i64 (x4 + (1 : Int))) x8 x9 x10 x11 x12 x15) (f16h0 x0 x1 x3 (wrap .i64 (x4 + (1 : Int))) x8 x9 x10 x11 x12 x13)) none) (f16h0 x0 x1 x3 (wrap .i64 (x4 + (1 : Int))) x8 x9 x10 x11 x12 x13))) (f16h0 x0 x1 x3 (wrap .i64 (x4 + (1 : Int))) x8 x9 x10 x11 x12 x13))) (f16h0 x0 x1 x3 (wrap .i64 (x4 + (1 : Int))) x8 x9 x10 x11 x12 x13)) none)) := hdEq (by kernel_rfl)
theorem f16h4_eq (x0 : Int) (x1 : Int) (x2 : (List Item)) (x3 : Int) (x4 : Int) (x5 : Int) (x6 : Int) (x7 : (List Bytes)) (x8 : (List Int)) : f16h4 x0 x1 x2 x3 x4 x5 x6 x7 x8 = (cond (decide (x1 < x0)) (cond (decide ((0 : Int) ≤ x1)) (cond (decide (x1 < ((List.length x8 : Nat) : Int))) (cond (decide ((Int.toNat x1) < List.length x8)) (cond (decide ((0 : Int) ≤ (List.getD x8 (Int.toNat x1) (Tc.dflt tI)))) (cond (decide ((List.getD x8 (Int.toNat x1) (Tc.dflt tI)) < ((List.length x2 : Nat) : Int))) (cond (decide ((List.length x7 + List.length ([(List.getD x2 (Int.toNat (List.getD x8 (Int.toNat x1) (Tc.dflt tI))) (Tc.dflt tItem)).1] : List Bytes)) * 16 ≤ 140737488355328)) (f16h4 x0 (wrap .i64 (x1 + (1 : Int))) x2 x3 x4 x5 x6 (x7 ++ ([(List.getD x2 (Int.toNat (List.getD x8 (Int.toNat x1) (Tc.dflt tI))) (Tc.dflt tItem)).1] : List Bytes)) x8) none) none) none) none) none) none) (some ⟨[.dat (.slice .str) x7, .dat tI (0 : Int)], []⟩)) := hdEq (by kernel_rfl)
theorem f22_run (a0 : (List Bytes)) : I22.run ⟨[.dat (.slice .str) a0], []⟩ = (cond (List.isEmpty a0) (both (some ⟨[.slc 0], [(0, .arr .str ([] : List Bytes))]⟩) (cond (decide ((List.length ([] : List Bytes) + List.length a0) * 16 ≤ 140737488355328)) (some ⟨[.slc 0], [(0, .arr .str (([] : List Bytes) ++ a0))]⟩) none)) (cond (decide ((List.length ([] : List Bytes) + List.length a0) * 16 ≤ 140737488355328)) (some ⟨[.slc 0], [(0, .arr .str (([] : List Bytes) ++ a0))]⟩) none)) := (I22.run_eq _).trans (by kernel_rfl)
noncomputable def f5h0 (x0 : Int) (x1 : (List Bytes)) (x2 : Int) (x3 : Int) (x4 : Int) (x5 : Int) (x6 : Int) (x7 : Int) (x8 : (List Item)) : Option Fr := I5.hd 0 (mkF 64 [(5, .dat tI x0), (6, .dat (.slice .str) x1), (8, .clos 17 [.ptr 500 0]), (39, .slc 501), (40, .dat tI x2), (41, .dat tI x3)] [(500, .box [.slc 501, .dat tI x4, .dat tI x5, .dat tI x6, .dat tI x7]), (501, .frz tItem x8)])
theorem f5_run (a0 : (List Int)) : I5.run ⟨[.dat (.slice tI) a0], []⟩ = (cond (atOk 1000 (0 : Int) && decide (0 ≤ (5 : Int)) && decide ((5 : Int) ≤ 5)) (cond (atOk 1 ((rightP a0 (0 : Int) (5 : Int)).1)) (cond (decide (List.length (((rightP a0 (0 : Int) (5 : Int)).2.1), (((rightP a0 (0 : Int) (5 : Int)).2.2.1), (((rightP a0 (0 : Int) (5 : Int)).2.2.2.1), (((rightP a0 (0 : Int) (5 : Int)).2.2.2.2.1), ((rightP a0 (0 : Int) (5 : Int)).2.2.2.2.2))))).1 ≤ 5)) (cond (((fitF (((rightP a0 (0 : Int) (5 : Int)).2.1), (((rightP a0 (0 : Int) (5 : Int)).2.2.1), (((rightP a0 (0 : Int) (5 : Int)).2.2.2.1), (((rightP a0 (0 : Int) (5 : Int)).2.2.2.2.1), ((rightP a0 (0 : Int) (5 : Int)).2.2.2.2.2))))) (rangeS (a0) ((rightP a0 (0 : Int) (5 : Int)).1) (0 : Int) (900 : Int))).2) != (0 : Int)) (some ⟨[.dat .bool false], []⟩) (cond (t17_ok ((fitF (((rightP a0 (0 : Int) (5 : Int)).2.1), (((rightP a0 (0 : Int) (5 : Int)).2.2.1), (((rightP a0 (0 : Int) (5 : Int)).2.2.2.1), (((rightP a0 (0 : Int) (5 : Int)).2.2.2.2.1), ((rightP a0 (0 : Int) (5 : Int)).2.2.2.2.2))))) (rangeS (a0) ((rightP a0 (0 : Int) (5 : Int)).1) (0 : Int) (900 : Int))).1) ((rightP a0 (0 : Int) (5 : Int)).2.2.1) ((rightP a0 (0 : Int) (5 : Int)).2.2.2.1) ((rightP a0 (0 : Int) (5 : Int)).2.2.2.2.1) ((rightP a0 (0 : Int) (5 : Int)).2.2.2.2.2) ((rightP a0 (0 : Int) (5 : Int)).2.1)) (cond (decide ((t17_0 ((fitF (((rightP a0 (0 : Int) (5 : Int)).2.1), (((rightP a0 (0 : Int) (5 : Int)).2.2.1), (((rightP a0 (0 : Int) (5 : Int)).2.2.2.1), (((rightP a0 (0 : Int) (5 : Int)).2.2.2.2.1), ((rightP a0 (0 : Int) (5 : Int)).2.2.2.2.2))))) (rangeS (a0) ((rightP a0 (0 : Int) (5 : Int)).1) (0 : Int) (900 : Int))).1) ((rightP a0 (0 : Int) (5 : Int)).2.2.1) ((rightP a0 (0 : Int) (5 : Int)).2.2.2.1) ((rightP a0 (0 : Int) (5 : Int)).2.2.2.2.1) ((rightP a0 (0 : Int) (5 : Int)).2.2.2.2.2) ((rightP a0 (0 : Int) (5 : Int)).2.1)) < (0 : Int))) (some ⟨[.dat .bool false], []⟩) (cond (decide ((t17_0 ((fitF (((rightP a0 (0 : Int) (5 : Int)).2.1), (((rightP a0 (0 : Int) (5 : Int)).2.2.1), (((rightP a0 (0 : Int) (5 : Int)).2.2.2.1), (((rightP a0 (0 : Int) (5 : Int)).2.2.2.2.1), ((rightP a0 (0 : Int) (5 : Int)).2.2.2.2.2))))) (rangeS (a0) ((rightP a0 (0 : Int) (5 : Int)).1) (0 : Int) (900 : Int))).1) ((rightP a0 (0 : Int) (5 : Int)).2.2.1) ((rightP a0 (0 : Int) (5 : Int)).2.2.2.1) ((rightP a0 (0 : Int) (5 : Int)).2.2.2.2.1) ((rightP a0 (0 : Int) (5 : Int)).2.2.2.2.2) ((rightP a0 (0 : Int) (5 : Int)).2.1)) > (rangeS (a0) ((rightP a0 (0 : Int) (5 : Int)).1) (0 : Int) (900 : Int)))) (some ⟨[.dat .bool false], []⟩) (f5h0 (rangeS (a0) ((rightP a0 (0 : Int) (5 : Int)).1) (0 : Int) (900 : Int)) ((fitF (((rightP a0 (0 : Int) (5 : Int)).2.1), (((rightP a0 (0 : Int) (5 : Int)).2.2.1), (((rightP a0 (0 : Int) (5 : Int)).2.2.2.1), (((rightP a0 (0 : Int) (5 : Int)).2.2.2.2.1), ((rightP a0 (0 : Int) (5 : Int)).2.2.2.2.2))))) (rangeS (a0) ((rightP a0 (0 : Int) (5 : Int)).1) (0 : Int) (900 : Int))).1) ((List.length ((rightP a0 (0 : Int) (5 : Int)).2.1) : Nat) : Int) (0 : Int) ((rightP a0 (0 : Int) (5 : Int)).2.2.1) ((rightP a0 (0 : Int) (5 : Int)).2.2.2.1) ((rightP a0 (0 : Int) (5 : Int)).2.2.2.2.1) ((rightP a0 (0 : Int) (5 : Int)).2.2.2.2.2) ((rightP a0 (0 : Int) (5 : Int)).2.1)))) none)) none) none) none) := (I5.run_eq _).trans (by kernel_rfl)
theorem f5h0_eq (x0 : Int) (x1 : (List Bytes)) (x2 : Int) (x3 : Int) (x4 : Int) (x5 : Int) (x6 : Int) (x7 : Int) (x8 : (List Item)) : f5h0 x0 x1 x2 x3 x4 x5 x6 x7 x8 = (cond (decide (x3 < x2)) (cond (decide ((0 : Int) ≤ x3)) (cond (decide (x3 < ((List.length x8 : Nat) : Int))) (cond (decide (List.length x1 ≤ 1000)) (cond (!(hasS x1 (List.getD x8 (Int.toNat x3) (Tc.dflt tItem)).1)) (cond (decide (List.length x1 ≤ 1000)) (cond (decide ((List.length (x1) + List.length ([(List.getD x8 (Int.toNat x3) (Tc.dflt tItem)).1] : List Bytes)) * 16 ≤ 140737488355328)) (cond (t17_ok ((x1) ++ ([(List.getD x8 (Int.toNat x3) (Tc.dflt tItem)).1] : List Bytes)) x4 x5 x6 x7 x8) (cond (decide ((t17_0 ((x1) ++ ([(List.getD x8 (Int.toNat x3) (Tc.dflt tItem)).1] : List Bytes)) x4 x5 x6 x7 x8) ≤ x0)) (some ⟨[.dat .bool false], []⟩) (f5h0 x0 x1 x2 (wrap .i64 (x3 + (1 : Int))) x4 x5 x6 x7 x8)) none) none) none) (f5h0 x0 x1 x2 (wrap .i64 (x3 + (1 : Int))) x4 x5 x6 x7 x8)) none) none) none) (some ⟨[.dat .bool true], []⟩)) := hdEq (by kernel_rfl)
end Go.Ev.Y

set_option linter.unusedVariables false
set_option linter.unusedSimpArgs false
set_option maxRecDepth 100000
namespace Go.Ev.Y
open Go Go.Ev Go.Proofs
theorem mo : Tryz.prog.follows .mixedOrders = true := by kernel_rfl
theorem e0 : EnvOk Tryz.prog En0 := env_nil (by kernel_rfl)
def R45 : Prop := ∀ (a0 : (List Bytes)) (a1 : Bytes), (decide (List.length a0 ≤ 1000)) = true → I45.run ⟨[.dat (.slice .str) a0, .dat .str a1], []⟩ = some ⟨[.dat tI (idxS a1 a0 0)], []⟩
theorem sd45 (hE : EnvOk Tryz.prog En0) (h : R45) : EnvOk Tryz.prog En45 := env_add hE (gen_sound I45 hE mo Tryz.func45 rfl rfl (fun x hx => h x.1 x.2.1 hx))
def R21 : Prop := ∀ (a0 : (List Bytes)) (a1 : Bytes), (decide (List.length a0 ≤ 1000)) = true → I21.run ⟨[.dat (.slice .str) a0, .dat .str a1], []⟩ = some ⟨[.dat .bool (hasS a0 a1)], []⟩
theorem sd21 (hE : EnvOk Tryz.prog En45) (h : R21) : EnvOk Tryz.prog En21 := env_add hE (gen_sound I21 hE mo Tryz.func21 rfl rfl (fun x hx => h x.1 x.2.1 hx))
def R20 : Prop := ∀ (a0 : Item) (ks : (List Bytes)), (t20_ok a0 ks) = true → I20.run ⟨[.dat tItem a0, .ptr 0 0], [(0, .box [.dat (.slice .str) ks])]⟩ = some ⟨[.dat .bool (t20_0 a0 ks)], [(0, .box [.dat (.slice .str) ks])]⟩
theorem sd20 (hE : EnvOk Tryz.prog En21) (h : R20) : EnvOk Tryz.prog En20 := env_add hE (gen_sound I20 hE mo Tryz.func20 rfl rfl (fun x hx => h x.1 x.2.1 hx))
theorem rt20 (a0 : Item) (ks : (List Bytes)) : I20.run ⟨[.dat tItem a0, .ptr 0 0], [(0, .box [.dat (.slice .str) ks])]⟩ = (t20 a0 ks).map (fun r => ⟨[.dat .bool r], [(0, .box [.dat (.slice .str) ks])]⟩) := by
  rw [f20_run a0 ks]
  unfold t20
  simp only [omap_cond, Option.map_some, Option.map_none]
theorem r20 : R20 := by
  intro a0 ks h
  obtain ⟨r, hr⟩ := Option.isSome_iff_exists.1 h
  rw [rt20, hr]
  unfold t20_0
  rw [hr]; rfl
def R44 : Prop := ∀ (a0 : (List Item)) (ks : (List Bytes)), (decide (List.length a0 ≤ 1000) && decide (List.length ks ≤ 1000)) = true → I44.run ⟨[.slc 0, .clos 20 [.ptr 1 0]], [(0, .arr tItem a0), (1, .box [.dat (.slice .str) ks])]⟩ = some ⟨[.dat tI (idxBy (fun o => t20_0 o ks) a0 0)], [(0, .arr tItem (a0)), (1, .box [.dat (.slice .str) (ks)])]⟩
theorem sd44 (hE : EnvOk Tryz.prog En20) (h : R44) : EnvOk Tryz.prog En44 := env_add hE (gen_sound I44 hE mo Tryz.func44 rfl rfl (fun x hx => h x.1 x.2.1 hx))
def R18 : Prop := ∀ (a0 : (List Item)) (ks : (List Bytes)), (decide (List.length a0 ≤ 1000) && decide (List.length ks ≤ 1000)) = true → I18.run ⟨[.slc 0, .clos 20 [.ptr 1 0]], [(0, .arr tItem a0), (1, .box [.dat (.slice .str) ks])]⟩ = some ⟨[.slc 4], [(0, .dead), (1, .box [.dat (.slice .str) (ks)]), (4, .arr tItem (List.filter (fun o => !t20_0 o ks) a0))]⟩
theorem sd18 (hE : EnvOk Tryz.prog En44) (h : R18) : EnvOk Tryz.prog En18 := env_add hE (gen_sound I18 hE mo Tryz.func18 rfl rfl (fun x hx => h x.1 x.2.1 hx))
def R42 : Prop := ∀ (a0 : Int) (a1 : Int) (a2 : Int), (true) = true → I42.run ⟨[.dat tI a0, .dat tI a1, .dat tI a2], []⟩ = some ⟨[.dat .bool (outside a0 a1 a2)], []⟩
theorem sd42 (hE : EnvOk Tryz.prog En18) (h : R42) : EnvOk Tryz.prog En42 := env_add hE (gen_sound I42 hE mo Tryz.func42 rfl rfl (fun x hx => h x.1 x.2.1 x.2.2.1 hx))
def R80 : Prop := ∀ (a0 : Item) (k : Bytes) (pl : Bytes) (lg : Int) (ps : (List Bytes)), (true) = true → I80.run ⟨[.dat tItem a0, .ptr 0 0], [(0, .box [.dat .str k, .dat .str pl, .dat tI lg, .dat (.slice .str) ps])]⟩ = some ⟨[.dat .bool (t80_0 a0 k pl lg ps)], [(0, .box [.dat .str k, .dat .str pl, .dat tI lg, .dat (.slice .str) ps])]⟩
theorem sd80 (hE : EnvOk Tryz.prog En42) (h : R80) : EnvOk Tryz.prog En80 := env_add hE (gen_sound I80 hE mo Tryz.func80 rfl rfl (fun x hx => h x.1 x.2.1 x.2.2.1 x.2.2.2.1 x.2.2.2.2.1 hx))
theorem r80 : R80 := by
  intro a0 k pl lg ps _
  exact f80_run a0 k pl lg ps
def R44a : Prop := ∀ (a0 : (List Item)) (k : Bytes) (pl : Bytes) (lg : Int) (ps : (List Bytes)), (decide (List.length a0 ≤ 1000)) = true → I44a.run ⟨[.dat (.slice tItem) a0, .clos 80 [.ptr 0 0]], [(0, .box [.dat .str k, .dat .str pl, .dat tI lg, .dat (.slice .str) ps])]⟩ = some ⟨[.dat tI (idxBy (fun o => t80_0 o k pl lg ps) a0 0)], [(0, .box [.dat .str (k), .dat .str (pl), .dat tI (lg), .dat (.slice .str) (ps)])]⟩
theorem sd44a (hE : EnvOk Tryz.prog En80) (h : R44a) : EnvOk Tryz.prog En44a := env_or hE rfl (gen_sound I44a hE mo Tryz.func44 rfl rfl (fun x hx => h x.1 x.2.1 x.2.2.1 x.2.2.2.1 x.2.2.2.2.1 hx))
def R79 : Prop := ∀ (a0 : (List Item)) (k : Bytes) (pl : Bytes) (lg : Int) (ps : (List Bytes)), (t79_ok a0 k pl lg ps) = true → I79.run ⟨[.dat (.slice tItem) a0, .clos 80 [.ptr 0 0]], [(0, .box [.dat .str k, .dat .str pl, .dat tI lg, .dat (.slice .str) ps])]⟩ = some ⟨[.dat .bool (t79_0 a0 k pl lg ps)], [(0, .box [.dat .str k, .dat .str pl, .dat tI lg, .dat (.slice .str) ps])]⟩
theorem sd79 (hE : EnvOk Tryz.prog En44a) (h : R79) : EnvOk Tryz.prog En79 := env_add hE (gen_sound I79 hE mo Tryz.func79 rfl rfl (fun x hx => h x.1 x.2.1 x.2.2.1 x.2.2.2.1 x.2.2.2.2.1 hx))
theorem rt79 (a0 : (List Item)) (k : Bytes) (pl : Bytes) (lg : Int) (ps : (List Bytes)) : I79.run ⟨[.dat (.slice tItem) a0, .clos 80 [.ptr 0 0]], [(0, .box [.dat .str k, .dat .str pl, .dat tI lg, .dat (.slice .str) ps])]⟩ = (t79 a0 k pl lg ps).map (fun r => ⟨[.dat .bool r], [(0, .box [.dat .str k, .dat .str pl, .dat tI lg, .dat (.slice .str) ps])]⟩) := by
  rw [f79_run a0 k pl lg ps]
  unfold t79
  simp only [omap_cond, Option.map_some, Option.map_none]
theorem r79 : R79 := by
  intro a0 k pl lg ps h
  obtain ⟨r, hr⟩ := Option.isSome_iff_exists.1 h
  rw [rt79, hr]
  unfold t79_0
  rw [hr]; rfl
def R103 : Prop := Sound Tryz.prog En0.gl 103 S103 ∧ Enters Tryz.prog 103
theorem sd103 (hE : EnvOk Tryz.prog En79) (h : R103) : EnvOk Tryz.prog En103 := env_add hE (h)
def R104 : Prop := Sound Tryz.prog En0.gl 104 S104 ∧ Enters Tryz.prog 104
theorem sd104 (hE : EnvOk Tryz.prog En103) (h : R104) : EnvOk Tryz.prog En104 := env_add hE (h)
def R78 : Prop := ∀ (a0 : Bytes), (true) = true → I78.run ⟨[.dat .str a0], []⟩ = some ⟨[.dat .bool (isKey a0)], []⟩
theorem sd78 (hE : EnvOk Tryz.prog En104) (h : R78) : EnvOk Tryz.prog En78 := env_add hE (gen_sound I78 hE mo Tryz.func78 rfl rfl (fun x hx => h x.1 hx))
def R81 : Prop := ∀ (a0 : (List Bytes)), (true) = true → I81.run ⟨[.dat (.slice .str) a0], []⟩ = some ⟨[.dat tI (partsF isKey a0)], []⟩
theorem sd81 (hE : EnvOk Tryz.prog En78) (h : R81) : EnvOk Tryz.prog En81 := env_add hE (gen_sound I81 hE mo Tryz.func81 rfl rfl (fun x hx => h x.1 hx))
def R55 : Prop := ∀ (a0 : (List Item)), (true) = true → I55.run ⟨[.dat (.slice tItem) a0], []⟩ = some ⟨[.dat tI (checkItems isKey a0)], []⟩
theorem sd55 (hE : EnvOk Tryz.prog En81) (h : R55) : EnvOk Tryz.prog En55 := env_add hE (gen_sound I55 hE mo Tryz.func55 rfl rfl (fun x hx => h x.1 hx))
def R34 : Prop := ∀ (a0 : Prgm), (true) = true → I34.run ⟨[.dat tPrgm a0], []⟩ = some ⟨[.dat tI (checkProg isKey a0)], []⟩
theorem sd34 (hE : EnvOk Tryz.prog En55) (h : R34) : EnvOk Tryz.prog En34 := env_add hE (gen_sound I34 hE mo Tryz.func34 rfl rfl (fun x hx => h x.1 hx))
def R98 : Prop := ∀ (a0 : Prgm) (a1 : Item) (a2 : Item), (true) = true → I98.run ⟨[.dat tPrgm a0, .dat tItem a1, .dat tItem a2], []⟩ = some ⟨[.dat tI (t98_0 a0 a1 a2)], []⟩
theorem sd98 (hE : EnvOk Tryz.prog En34) (h : R98) : EnvOk Tryz.prog En98 := env_add hE (gen_sound I98 hE mo Tryz.func98 rfl rfl (fun x hx => h x.1 x.2.1 x.2.2.1 hx))
theorem r98 : R98 := by
  intro a0 a1 a2 _
  rw [f98_run a0 a1 a2]
  unfold t98_0 t98
  cases h2 : (!(a1.2.1 == a2.2.1)) with
  | true =>
    simp only [cond_true]
    all_goals rfl
  | false =>
    simp only [cond_false]
    all_goals rfl
def R72 : Prop := ∀ (a0 : Prgm) (a1 : Int), (decide (0 ≤ a1) && decide (a1 + 1 < (List.length a0.1 : Int)) && decide (List.length a0.1 ≤ 1000)) = true → I72.run ⟨[.dat tPrgm a0, .dat tI a1], []⟩ = some ⟨[.dat tI (behindF a0 a1)], []⟩
theorem sd72 (hE : EnvOk Tryz.prog En98) (h : R72) : EnvOk Tryz.prog En72 := env_add hE (gen_sound I72 hE mo Tryz.func72 rfl rfl (fun x hx => h x.1 x.2.1 hx))
def R40 : Prop := ∀ (a0 : Prgm), (decide (List.length a0.1 ≤ 1000)) = true → I40.run ⟨[.dat tPrgm a0], []⟩ = some ⟨[.slc 0, .dat tI ((begGo a0 0 0 a0.1).2)], [(0, .arr tI ((begGo a0 0 0 a0.1).1))]⟩
theorem sd40 (hE : EnvOk Tryz.prog En72) (h : R40) : EnvOk Tryz.prog En40 := env_add hE (gen_sound I40 hE mo Tryz.func40 rfl rfl (fun x hx => h x.1 hx))
def R11 : Prop := ∀ (a0 : Prgm), (true) = true → I11.run ⟨[.dat tPrgm a0], []⟩ = some ⟨[.dat tI ((longP a0).1), .dat tI ((longP a0).2)], []⟩
theorem sd11 (hE : EnvOk Tryz.prog En40) (h : R11) : EnvOk Tryz.prog En11 := env_add hE (gen_sound I11 hE mo Tryz.func11 rfl rfl (fun x hx => h x.1 hx))
def R19 : Prop := ∀ (a0 : (List Item)), (decide (List.length a0 ≤ 1000)) = true → I19.run ⟨[.dat (.slice tItem) a0], []⟩ = some ⟨[.slc 0], [(0, .arr tItem (a0))]⟩
theorem sd19 (hE : EnvOk Tryz.prog En11) (h : R19) : EnvOk Tryz.prog En19 := env_add hE (gen_sound I19 hE mo Tryz.func19 rfl rfl (fun x hx => h x.1 hx))
def R17 : Prop := ∀ (a0 : (List Bytes)) (c1 : Int) (c2 : Int) (c3 : Int) (c4 : Int) (its : (List Item)), (t17_ok a0 c1 c2 c3 c4 its) = true → I17.run ⟨[.dat (.slice .str) a0, .ptr 0 0], [(0, .box [.slc 1, .dat tI c1, .dat tI c2, .dat tI c3, .dat tI c4]), (1, .frz tItem its)]⟩ = some ⟨[.dat tI (t17_0 a0 c1 c2 c3 c4 its)], [(0, .box [.slc 1, .dat tI c1, .dat tI c2, .dat tI c3, .dat tI c4]), (1, .frz tItem its)]⟩
theorem sd17 (hE : EnvOk Tryz.prog En19) (h : R17) : EnvOk Tryz.prog En17 := env_add hE (gen_sound I17 hE mo Tryz.func17 rfl rfl (fun x hx => h x.1 x.2.1 x.2.2.1 x.2.2.2.1 x.2.2.2.2.1 x.2.2.2.2.2.1 hx))
theorem rt17 (a0 : (List Bytes)) (c1 : Int) (c2 : Int) (c3 : Int) (c4 : Int) (its : (List Item)) : I17.run ⟨[.dat (.slice .str) a0, .ptr 0 0], [(0, .box [.slc 1, .dat tI c1, .dat tI c2, .dat tI c3, .dat tI c4]), (1, .frz tItem its)]⟩ = (t17 a0 c1 c2 c3 c4 its).map (fun r => ⟨[.dat tI r], [(0, .box [.slc 1, .dat tI c1, .dat tI c2, .dat tI c3, .dat tI c4]), (1, .frz tItem its)]⟩) := by
  rw [f17_run a0 c1 c2 c3 c4 its]
  unfold t17
  simp only [omap_cond, Option.map_some, Option.map_none]
theorem r17 : R17 := by
  intro a0 c1 c2 c3 c4 its h
  obtain ⟨r, hr⟩ := Option.isSome_iff_exists.1 h
  rw [rt17, hr]
  unfold t17_0
  rw [hr]; rfl
def R54 : Prop := ∀ (a0 : Int) (a1 : Int), (true) = true → I54.run ⟨[.dat tI a0, .dat tI a1], []⟩ = some ⟨[.dat tI (below a0 a1)], []⟩
theorem sd54 (hE : EnvOk Tryz.prog En17) (h : R54) : EnvOk Tryz.prog En54 := env_add hE (gen_sound I54 hE mo Tryz.func54 rfl rfl (fun x hx => h x.1 x.2.1 hx))
def R33 : Prop := ∀ (a0 : Int) (L : (List Int)) (at_ : Int), (atOk 1 at_) = true → I33.run ⟨[.ptr 0 0, .dat tI a0], [(0, .box [.dat (.slice tI) L, .dat tI at_])]⟩ = some ⟨[.dat tI (next L at_ a0)], [(0, .box [.dat (.slice tI) (L), .dat tI (nextAt at_)])]⟩
theorem sd33 (hE : EnvOk Tryz.prog En54) (h : R33) : EnvOk Tryz.prog En33 := env_add hE (gen_sound I33 hE mo Tryz.func33 rfl rfl (fun x hx => h x.1 x.2.1 x.2.2.1 hx))
def R30 : Prop := ∀ (a0 : (List Int)) (L : (List Int)) (at_ : Int), (atOk 1 at_ && decide (0 < List.length a0) && decide (List.length a0 ≤ 1000)) = true → I30.run ⟨[.ptr 0 0, .dat (.slice tI) a0], [(0, .box [.dat (.slice tI) L, .dat tI at_])]⟩ = some ⟨[.dat tI (pick L at_ a0)], [(0, .box [.dat (.slice tI) (L), .dat tI (nextAt at_)])]⟩
theorem sd30 (hE : EnvOk Tryz.prog En33) (h : R30) : EnvOk Tryz.prog En30 := env_add hE (gen_sound I30 hE mo Tryz.func30 rfl rfl (fun x hx => h x.1 x.2.1 x.2.2.1 hx))
def R31 : Prop := ∀ (a0 : Int) (L : (List Int)) (at_ : Int), (atOk 1 at_) = true → I31.run ⟨[.ptr 0 0, .dat tI a0], [(0, .box [.dat (.slice tI) L, .dat tI at_])]⟩ = some ⟨[.dat .bool (next L at_ a0 == 0)], [(0, .box [.dat (.slice tI) (L), .dat tI (nextAt at_)])]⟩
theorem sd31 (hE : EnvOk Tryz.prog En30) (h : R31) : EnvOk Tryz.prog En31 := env_add hE (gen_sound I31 hE mo Tryz.func31 rfl rfl (fun x hx => h x.1 x.2.1 x.2.2.1 hx))
def R32 : Prop := ∀ (a0 : (List Bytes)) (L : (List Int)) (at_ : Int), (atOk 1 at_ && decide (0 < List.length a0) && decide (List.length a0 ≤ 1000)) = true → I32.run ⟨[.ptr 0 0, .dat (.slice .str) a0], [(0, .box [.dat (.slice tI) L, .dat tI at_])]⟩ = some ⟨[.dat .str (some_ L at_ a0)], [(0, .box [.dat (.slice tI) (L), .dat tI (nextAt at_)])]⟩
theorem sd32 (hE : EnvOk Tryz.prog En31) (h : R32) : EnvOk Tryz.prog En32 := env_add hE (gen_sound I32 hE mo Tryz.func32 rfl rfl (fun x hx => h x.1 x.2.1 x.2.2.1 hx))
def R8 : Prop := ∀ (a0 : Int) (L : (List Int)) (at_ : Int), (atOk 1000 at_ && decide (0 ≤ a0) && decide (a0 ≤ 5)) = true → I8.run ⟨[.ptr 0 0, .dat tI a0], [(0, .box [.dat (.slice tI) L, .dat tI at_])]⟩ = some ⟨[.agg [.slc 2, .dat tI ((rightP L at_ a0).2.2.1), .dat tI ((rightP L at_ a0).2.2.2.1), .dat tI ((rightP L at_ a0).2.2.2.2.1), .dat tI ((rightP L at_ a0).2.2.2.2.2)]], [(0, .box [.dat (.slice tI) (L), .dat tI ((rightP L at_ a0).1)]), (2, .arr tItem ((rightP L at_ a0).2.1))]⟩
theorem sd8 (hE : EnvOk Tryz.prog En32) (h : R8) : EnvOk Tryz.prog En8 := env_add hE (gen_sound I8 hE mo Tryz.func8 rfl rfl (fun x hx => h x.1 x.2.1 x.2.2.1 hx))
def R10 : Prop := Sound Tryz.prog En0.gl 10 S10 ∧ Enters Tryz.prog 10
theorem sd10 (hE : EnvOk Tryz.prog En8) (h : R10) : EnvOk Tryz.prog En10 := env_add hE (h)
def R13 : Prop := ∀ (a0 : Int) (a1 : Int) (L : (List Int)) (at_ : Int), (atOk 1 at_) = true → I13.run ⟨[.ptr 0 0, .dat tI a0, .dat tI a1], [(0, .box [.dat (.slice tI) L, .dat tI at_])]⟩ = some ⟨[.dat tI (rangeS L at_ a0 a1)], [(0, .box [.dat (.slice tI) (L), .dat tI (rangeAt at_ a0 a1)])]⟩
theorem sd13 (hE : EnvOk Tryz.prog En10) (h : R13) : EnvOk Tryz.prog En13 := env_add hE (gen_sound I13 hE mo Tryz.func13 rfl rfl (fun x hx => h x.1 x.2.1 x.2.2.1 x.2.2.2.1 hx))
def R35 : Prop := ∀ (a0 : Prgm) (a1 : (List Item)), (t35_ok a0 a1) = true → I35.run ⟨[.dat tPrgm a0, .dat (.slice tItem) a1], []⟩ = some ⟨[.dat tI (t35_0 a0 a1)], []⟩
theorem sd35 (hE : EnvOk Tryz.prog En13) (h : R35) : EnvOk Tryz.prog En35 := env_add hE (gen_sound I35 hE mo Tryz.func35 rfl rfl (fun x hx => h x.1 x.2.1 hx))
theorem rt35 (a0 : Prgm) (a1 : (List Item)) : I35.run ⟨[.dat tPrgm a0, .dat (.slice tItem) a1], []⟩ = (t35 a0 a1).map (fun r => ⟨[.dat tI r], []⟩) := by
  rw [f35_run a0 a1]
  unfold t35
  simp only [omap_cond, Option.map_some, Option.map_none]
theorem r35 : R35 := by
  intro a0 a1 h
  obtain ⟨r, hr⟩ := Option.isSome_iff_exists.1 h
  rw [rt35, hr]
  unfold t35_0
  rw [hr]; rfl
def R99 : Prop := ∀ (a0 : Int), (true) = true → I99.run ⟨[.dat tI a0], []⟩ = some ⟨[.dat .bool (t99_0 a0)], []⟩
theorem sd99 (hE : EnvOk Tryz.prog En35) (h : R99) : EnvOk Tryz.prog En99 := env_add hE (gen_sound I99 hE mo Tryz.func99 rfl rfl (fun x hx => h x.1 hx))
theorem r99 : R99 := by
  intro a0 _
  exact f99_run a0
def R73 : Prop := ∀ (a0 : Int) (a1 : Int), (true) = true → I73.run ⟨[.dat tI a0, .dat tI a1], []⟩ = some ⟨[.dat tI (t73_0 a0 a1)], []⟩
theorem sd73 (hE : EnvOk Tryz.prog En99) (h : R73) : EnvOk Tryz.prog En73 := env_add hE (gen_sound I73 hE mo Tryz.func73 rfl rfl (fun x hx => h x.1 x.2.1 hx))
theorem r73 : R73 := by
  intro a0 a1 _
  rw [f73_run a0 a1]
  unfold t73_0 t73
  cases h2 : (t99_0 a0) with
  | true =>
    simp only [cond_true]
    cases h4 : (t99_0 a1) with
    | true =>
      simp only [cond_true]
      all_goals rfl
    | false =>
      simp only [cond_false]
      all_goals rfl
  | false =>
    simp only [cond_false]
    cases h4 : (t99_0 a1) with
    | true =>
      simp only [cond_true]
      all_goals rfl
    | false =>
      simp only [cond_false]
      cases h6 : (decide (a0 < a1)) with
      | true =>
        simp only [cond_true]
        all_goals rfl
      | false =>
        simp only [cond_false]
        cases h8 : (decide (a0 > a1)) with
        | true =>
          simp only [cond_true]
          all_goals rfl
        | false =>
          simp only [cond_false]
          all_goals rfl
def R43 : Prop := ∀ (a0 : (List Int)) (a1 : (List Int)), (decide (List.length a0 ≤ 1000)) = true → I43.run ⟨[.dat (.slice tI) a0, .dat (.slice tI) a1], []⟩ = some ⟨[.dat tI (cmpGo a0 a1)], []⟩
theorem sd43 (hE : EnvOk Tryz.prog En73) (h : R43) : EnvOk Tryz.prog En43 := env_add hE (gen_sound I43 hE mo Tryz.func43 rfl rfl (fun x hx => h x.1 x.2.1 hx))
def R16 : Prop := ∀ (a0 : Prgm) (a1 : Int), (decide (List.length a0.1 ≤ 5)) = true → I16.run ⟨[.dat tPrgm a0, .dat tI a1], []⟩ = some ⟨[.dat (.slice .str) ((fitF a0 a1).1), .dat tI ((fitF a0 a1).2)], []⟩
theorem sd16 (hE : EnvOk Tryz.prog En43) (h : R16) : EnvOk Tryz.prog En16 := env_add hE (gen_sound I16 hE mo Tryz.func16 rfl rfl (fun x hx => h x.1 x.2.1 hx))
def R22 : Prop := ∀ (a0 : (List Bytes)), (decide (List.length a0 ≤ 1000)) = true → I22.run ⟨[.dat (.slice .str) a0], []⟩ = some ⟨[.slc 0], [(0, .arr .str (a0))]⟩
theorem sd22 (hE : EnvOk Tryz.prog En16) (h : R22) : EnvOk Tryz.prog En22 := env_add hE (gen_sound I22 hE mo Tryz.func22 rfl rfl (fun x hx => h x.1 hx))
def R5 : Prop := ∀ (a0 : (List Int)), (true) = true → I5.run ⟨[.dat (.slice tI) a0], []⟩ = some ⟨[.dat .bool true], []⟩
theorem law (hE : EnvOk Tryz.prog En22) (h : R5) : Sound Tryz.prog En22.gl 5 S5 := And.left (b := Enters Tryz.prog 5) (gen_sound I5 hE mo Tryz.func5 rfl rfl (fun x hx => h x.1 hx))
end Go.Ev.Y

set_option linter.unusedVariables false
set_option linter.unusedSimpArgs false
namespace Go.Ev.Y
open Go Go.Ev Go.Proofs
/-! ### small things (rw [condT (dT (by first | omega | (simp only [List.length_append, List.length_cons, List.length_nil, List.length_set, List.length_take, List.length_drop, List.length_map]; omega) | (simp; omega)))], repeat (rw [condT (dT (by first | omega | (simp only [List.length_append, List.length_cons, List.length_nil, List.length_set, List.length_take, List.length_drop, List.length_map]; omega) | (simp; omega)))]), st: words that tmpl2.py writes out) -/
theorem c12 {α : Type} {a b : α} : cond ((12 : Int) == 0) a b = b := rfl
theorem range1 (i m : Nat) : List.range' i (m + 1) = i :: List.range' (i + 1) m := by rw [List.range'_succ]

theorem r54 : R54 := by
  intro a0 a1 _
  rw [f54_run]
  unfold below
  by_cases h1 : a1 < 1
  · simp [h1]
  · have h0 : (a1 == 0) = false := by simp; omega
    by_cases h2 : a0.tmod a1 < 0 <;> simp [h1, h0, h2]

theorem atOk_iff {k a : Int} : atOk k a = true ↔ 0 ≤ a ∧ a + k ≤ 1099511627776 := by simp [atOk]

theorem nextAt_eq {k a : Int} (h : atOk k a = true) (hk : 0 ≤ k) : nextAt a = a + 1 := by
  rw [atOk_iff] at h
  unfold nextAt
  exact wrap_in (by omega) (by omega)

theorem r33 : R33 := by
  intro a0 L at_ h
  rw [f33_run]
  have h1 := atOk_iff.1 h
  have e1 : wrap .i64 (at_ + 1) = at_ + 1 := wrap_in (by omega) (by omega)
  have e2 : wrap .i64 (at_ + 1 - 1) = at_ := by rw [wrap_in (by omega) (by omega)]; omega
  unfold next rawNext nextAt
  by_cases h0 : L = []
  · subst h0; simp
  · have hl : 0 < L.length := List.length_pos_iff.2 h0
    have hne : ((L.length : Int) == 0) = false := by simp; omega
    have ht0 : decide ((0 : Int) ≤ Int.tmod at_ L.length) = true := by simp; exact Int.tmod_nonneg _ h1.1
    have ht1 : decide (Int.tmod at_ L.length < L.length) = true := by simp; exact Int.tmod_lt_of_pos _ (by omega)
    simp only [hne, cond_false, e1, e2, ht0, ht1, cond_true]

theorem below_range {x n : Int} (h1 : 1 ≤ n) (h2 : n ≤ 4611686018427387904) : 0 ≤ below x n ∧ below x n < n := by
  unfold below
  have hlt : decide (n < 1) = false := by simp; omega
  have h3 := Int.tmod_lt_of_pos x (show 0 < n by omega)
  have h4 : -n < x.tmod n := Int.lt_tmod_of_pos x (by omega)
  rw [hlt, cond_false]
  by_cases h : x.tmod n < 0
  · rw [condT (by simpa using h), wrap_in (by omega) (by omega)]; omega
  · rw [condF (by simpa using h)]; omega

theorem next_range (L : List Int) (at_ : Int) {n : Int} (h1 : 1 ≤ n) (h2 : n ≤ 4611686018427387904) : 0 ≤ next L at_ n ∧ next L at_ n < n := below_range h1 h2

theorem r31 : R31 := by
  intro a0 L at_ h
  rw [f31_run, h]; rfl

theorem r30 : R30 := by
  intro a0 L at_ h
  simp only [Bool.and_eq_true, decide_eq_true_eq] at h
  obtain ⟨⟨h1, h2⟩, h3⟩ := h
  have hr := next_range L at_ (n := (a0.length : Int)) (by omega) (by omega)
  rw [f30_run, h1]
  have q1 : decide ((0 : Int) ≤ next L at_ a0.length) = true := by simpa using hr.1
  have q2 : decide (next L at_ a0.length < a0.length) = true := by simpa using hr.2
  rw [q1, q2]; rfl

theorem r13 : R13 := by
  intro a0 a1 L at_ h
  rw [f13_run, h]
  unfold rangeS rangeAt
  by_cases hc : a1 < a0 <;> simp [hc]

theorem r42 : R42 := by
  intro a0 a1 a2 _
  rw [f42_run]
  unfold outside
  cases decide (a0 < a1) <;> rfl

theorem atOk_t {k a : Int} (h1 : 0 ≤ a) (h2 : a + k ≤ 1099511627776) : atOk k a = true := atOk_iff.2 ⟨h1, h2⟩
theorem nextAt_s {a : Int} (h1 : 0 ≤ a) (h2 : a + 1 ≤ 1099511627776) : nextAt a = a + 1 := wrap_in (by omega) (by omega)
theorem rangeAt_s {a lo hi : Int} (h0 : lo ≤ hi) (h1 : 0 ≤ a) (h2 : a + 1 ≤ 1099511627776) : rangeAt a lo hi = a + 1 := by
  unfold rangeAt
  rw [condF (by simp; omega)]; exact nextAt_s h1 h2
theorem rangeS_in (L : List Int) (a : Int) {lo hi : Int} (h : lo ≤ hi) (h1 : -1000000000 ≤ lo) (h2 : hi ≤ 1000000000) : lo ≤ rangeS L a lo hi ∧ rangeS L a lo hi ≤ hi := by
  unfold rangeS
  rw [condF (by simp; omega), wrap_in (x := hi - lo) (by omega) (by omega), wrap_in (x := hi - lo + 1) (by omega) (by omega)]
  have := next_range L a (n := hi - lo + 1) (by omega) (by omega)
  rw [wrap_in (by omega) (by omega)]; omega
theorem oddAt (L : List Int) {a lo hi : Int} (h0 : lo ≤ hi) (h1 : 0 ≤ a) (h2 : a + 2 ≤ 1099511627776) : (oddS L a lo hi).1 = a + 2 := by
  unfold oddS
  cases next L a 12 == 0
  · simp only [cond_false]; rw [nextAt_s h1 (by omega), rangeAt_s h0 (by omega) (by omega)]; omega
  · simp only [cond_true]; rw [nextAt_s h1 (by omega), nextAt_s (by omega) (by omega)]; omega
theorem len_t {n m : Nat} (h : n ≤ m) : decide (n ≤ m) = true := dT h
theorem atOk_and {k a : Int} {p q : Bool} (h1 : 0 ≤ a) (h2 : a + k ≤ 1099511627776) (hp : p = true) (hq : q = true) : (atOk k a && p && q) = true := by
  rw [atOk_t h1 h2, hp, hq]; rfl
theorem bself (n : Int) : (n == n) = true := by simp

theorem r32 : R32 := by
  intro a0 L at_ h
  simp only [Bool.and_eq_true, decide_eq_true_eq] at h
  obtain ⟨⟨h1, h2⟩, h3⟩ := h
  have hr := next_range L at_ (n := (a0.length : Int)) (by omega) (by omega)
  rw [f32_run, h1]
  have q1 : decide ((0 : Int) ≤ next L at_ a0.length) = true := by simpa using hr.1
  have q2 : decide (next L at_ a0.length < a0.length) = true := by simpa using hr.2
  rw [q1, q2]; rfl

theorem r22 : R22 := by
  intro a0 h
  simp only [decide_eq_true_eq] at h
  rw [f22_run, condT (dT (by simp; omega))]
  cases a0 with
  | nil => simp [both_self]
  | cons x l => simp

theorem idxBy_any {α : Type} (p : α → Bool) : ∀ (l : List α) (i : Nat), decide (idxBy p l i ≥ 0) = l.any p
  | [], i => by simp [idxBy]
  | x :: l, i => by
    have ih := idxBy_any p l (i + 1)
    simp only [idxBy, List.any_cons]
    by_cases hx : p x = true
    · simp [hx]
    · have hx : p x = false := by simpa using hx
      simp only [hx, cond_false, Bool.false_or]; exact ih

theorem go44a (xs : List Item) (hb : xs.length ≤ 1000) (k pl : Bytes) (lg : Int) (ps : List Bytes) : ∀ (m i : Nat), i + m = xs.length →
    f44ah0 xs xs.length i k pl lg ps = some ⟨[.dat tI (idxBy (fun o => t80_0 o k pl lg ps) (xs.drop i) i)], [(0, .box [.dat .str k, .dat .str pl, .dat tI lg, .dat (.slice .str) ps])]⟩ := by
  intro m
  induction m with
  | zero => intro i hi; rw [f44ah0_eq, dlt_not (by omega), dnil (by omega)]; rfl
  | succ m ih =>
    intro i hi
    have hlt : i < xs.length := by omega
    rw [f44ah0_eq, dlt hlt, dle0, getN _ _ _ hlt, wsucc (by omega), ih (i + 1) (by omega), dcons hlt]
    simp only [cond_true, idxBy]
    cases t80_0 xs[i] k pl lg ps <;> rfl

theorem r44a : R44a := by
  intro a0 k pl lg ps h
  simp only [decide_eq_true_eq] at h
  rw [f44a_run]
  exact go44a a0 h k pl lg ps a0.length 0 (by omega)

theorem r78 : R78 := by
  intro a0 _
  rw [f78_run]
  show (cond (!(a0 == [])) (cond (decide ((a0.length : Int) ≤ 40)) (cond (decide ((0 : Int) ≤ 0)) (cond (decide ((0 : Int) < (a0.length : Int))) (cond (decide (indexB smallsB ((a0.getD 0 0).toNat : Int) ≥ 0)) (cond (trimOk a0 keyB) (some (α := Fr) ⟨[.dat .bool (trimB a0 keyB == [])], []⟩) none) (some (α := Fr) ⟨[.dat .bool false], []⟩)) none) none) (some (α := Fr) ⟨[.dat .bool false], []⟩)) (some (α := Fr) ⟨[.dat .bool false], []⟩)) = some (α := Fr) ⟨[.dat .bool (!(a0 == []) && decide ((a0.length : Int) ≤ 40) && decide (indexB smallsB ((a0.getD 0 0).toNat : Int) ≥ 0) && (trimB a0 keyB == []))], []⟩
  generalize hz : decide (indexB smallsB ((a0.getD 0 0).toNat : Int) ≥ 0) = z
  cases h1 : !(a0 == []) with
  | false => rfl
  | true =>
    cases h2 : decide ((a0.length : Int) ≤ 40) with
    | false => rfl
    | true =>
      have h1' : 0 < a0.length := by
        cases a0 with
        | nil => simp at h1
        | cons x l => simp
      have h2' : (a0.length : Int) ≤ 40 := by simpa using h2
      have q : trimOk a0 keyB = true := by
        unfold trimOk
        rw [dT (by omega), show decide (keyB.length ≤ 1000) = true from by decide, show (keyB.all fun b => decide (b.toNat < 128)) = true from by decide]; rfl
      have q0 : decide ((0 : Int) < (a0.length : Int)) = true := dT (by omega)
      simp only [cond_true, q0, Bool.true_and, q, show decide ((0 : Int) ≤ 0) = true from rfl]
      cases z <;> rfl

theorem go81 (xs : List Bytes) (hb : xs.length ≤ 1000) : ∀ (m i : Nat) (prev : Option Bytes), i + m = xs.length → (i = 0 ∧ prev = none ∨ ∃ h : 0 < i ∧ i - 1 < xs.length, prev = some (xs[i - 1]'h.2)) →
    f81h0 xs xs xs.length i = some ⟨[.dat tI (risingGo isKey prev (xs.drop i))], []⟩ := by
  intro m
  induction m with
  | zero => intro i prev hi hp; rw [f81h0_eq, dlt_not (by omega), dnil (by omega)]; rfl
  | succ m ih =>
    intro i prev hi hp
    have hlt : i < xs.length := by omega
    have ih' := ih (i + 1) (some xs[i]) (by omega) (.inr ⟨⟨by omega, by omega⟩, rfl⟩)
    rw [f81h0_eq, dlt hlt, dle0, getN _ _ _ hlt, wsucc (by omega), ih', dcons hlt]
    simp only [cond_true, risingGo]
    cases isKey xs[i] with
    | false => rfl
    | true =>
      simp only [Bool.not_true, cond_false]
      rcases hp with ⟨rfl, rfl⟩ | ⟨⟨h1, h2⟩, rfl⟩
      · rfl
      · have e : wrap .i64 ((i : Int) - 1) = ((i - 1 : Nat) : Int) := by rw [wrap_in (by omega) (by omega)]; omega
        rw [e, dle0, dlt h2, getN _ _ _ h2, condT (dT (by omega))]
        simp only [cond_true, notAfter]
        cases bLess xs[i] xs[i - 1] || xs[i] == xs[i - 1] <;> rfl

theorem r81 : R81 := by
  intro a0 _
  rw [f81_run]
  unfold partsF
  cases h1 : ((a0.length : Int) == 0) with
  | true => rfl
  | false =>
    cases h2 : decide ((a0.length : Int) > 12) with
    | true => rfl
    | false =>
      simp only [cond_false]
      have : ¬ (a0.length : Int) > 12 := by simpa using h2
      exact go81 a0 (by omega) a0.length 0 none (by omega) (.inl ⟨rfl, rfl⟩)


end Go.Ev.Y

set_option linter.unusedVariables false
set_option linter.unusedSimpArgs false
namespace Go.Ev.Y
open Go Go.Ev Go.Proofs
theorem okC (l : List Item) (k pl : Bytes) (lg : Int) (ps : List Bytes) (h : l.length ≤ 1000) : t79_ok l k pl lg ps = true ∧
    t79_0 l k pl lg ps = (l.any fun o => o.1 == k) := by
  unfold t79_ok t79_0 t79
  rw [dT h]
  refine ⟨rfl, ?_⟩
  exact idxBy_any _ l 0

theorem go55 (xs : List Item) (hb : xs.length ≤ 60) : ∀ (m i : Nat), i + m = xs.length →
    f55h0 xs xs xs.length i = some ⟨[.dat tI (itemsGo isKey (xs.take i) (xs.drop i))], []⟩ := by
  intro m
  induction m with
  | zero => intro i hi; rw [f55h0_eq, dlt_not (by omega), dnil (xs := xs) (i := i) (by omega)]; rfl
  | succ m ih =>
    intro i hi
    have hlt : i < xs.length := by omega
    have ih' := ih (i + 1) (by omega)
    have hl : (xs.take i).length ≤ 1000 := by rw [List.length_take]; omega
    rw [List.take_succ_eq_append_getElem hlt] at ih'
    rw [f55h0_eq, dlt hlt, dle0, getN _ _ _ hlt, wsucc (by omega), ih', dcons hlt]
    have e : List.drop (Int.toNat 0) (List.take (Int.toNat (i : Int)) xs) = xs.take i := rfl
    obtain ⟨q1, q2⟩ := okC (xs.take i) xs[i].1 xs[i].2.1 xs[i].2.2.1 xs[i].2.2.2 hl
    rw [e, q1, q2, dT (p := (i : Int) ≤ (xs.length : Int)) (by omega), show decide ((0 : Int) ≤ 0) = true from rfl]
    simp only [cond_true, itemsGo]
    cases isKey xs[i].1 with
    | false => rfl
    | true =>
      cases isKey xs[i].2.1 with
      | false => rfl
      | true =>
        simp only [Bool.not_true, cond_false, Bool.or_false]
        cases (xs.take i).any fun o => o.1 == xs[i].1 with
        | true => rfl
        | false =>
          cases outside xs[i].2.2.1 1 86400000 with
          | true => rfl
          | false =>
            simp only [cond_false]
            cases partsF isKey xs[i].2.2.2 != 0 <;> rfl

theorem r55 : R55 := by
  intro a0 _
  rw [f55_run]
  unfold checkItems
  cases h2 : decide ((a0.length : Int) > 60) with
  | true => rfl
  | false =>
    have : ¬ (a0.length : Int) > 60 := by simpa using h2
    exact go55 a0 (by omega) a0.length 0 (by omega)

theorem outside_in (n lo hi : Int) : outside n lo hi = !inR n lo hi := by
  unfold outside inR
  have h1 : decide (n < lo) = !decide (lo ≤ n) := by
    by_cases h : lo ≤ n
    · have : ¬ n < lo := by omega
      simp [h, this]
    · have : n < lo := by omega
      simp [h, this]
  have h2 : decide (n > hi) = !decide (n ≤ hi) := by
    by_cases h : n ≤ hi
    · have : ¬ n > hi := by omega
      simp [h, this]
    · have : n > hi := by omega
      simp [h, this]
  rw [h1, h2, Bool.not_and]

theorem r34 : R34 := by
  intro a0 _
  rw [f34_run]
  unfold checkProg
  cases checkItems isKey a0.1 != 0 with
  | true => rfl
  | false =>
    simp only [cond_false]
    have e : (if (-1 : Int) < (wrap .i64 ((a0.1.length : Int) - 2)) then (wrap .i64 ((a0.1.length : Int) - 2)) else (-1 : Int)) = mx (-1) (wrap .i64 ((a0.1.length : Int) - 2)) := rfl
    rw [e]
    cases outside a0.2.1 0 86400000 with
    | true => rfl
    | false =>
      cases outside a0.2.2.1 0 86400000 with
      | true => rfl
      | false =>
        cases outside a0.2.2.2.1 0 86400000 with
        | true => rfl
        | false => cases outside a0.2.2.2.2 (-1) (mx (-1) (wrap .i64 ((a0.1.length : Int) - 2))) <;> rfl

theorem ix_iff {p : Prgm} {i : Int} : (decide (0 ≤ i) && decide (i + 1 < (List.length p.1 : Int)) && decide (List.length p.1 ≤ 1000)) = true ↔ 0 ≤ i ∧ i + 1 < (p.1.length : Int) ∧ p.1.length ≤ 1000 := by
  simp only [Bool.and_eq_true, decide_eq_true_eq, and_assoc]

theorem r72 : R72 := by
  intro a0 a1 h
  obtain ⟨h1, h2, h3⟩ := ix_iff.1 h
  rw [f72_run, wrap_in (x := a1 + 1) (by omega) (by omega), dT (p := (0 : Int) ≤ a1) h1, dT (p := a1 < (a0.1.length : Int)) (by omega), dT (p := (0 : Int) ≤ a1 + 1) (by omega), dT (p := a1 + 1 < (a0.1.length : Int)) h2]
  simp only [cond_true]
  unfold behindF gapAt t98_0 t98
  cases a1 == a0.2.2.2.2 <;> rfl

theorem behind_eq (p : Prgm) (i : Nat) (h : i + 1 < p.1.length) : behindF p i = gapAt p i p.1[i] p.1[i + 1] := by
  have h' : i < p.1.length := by omega
  unfold behindF
  have e : ((i : Int) + 1) = ((i + 1 : Nat) : Int) := by omega
  rw [e, getN _ _ _ h', getN _ _ _ h]

theorem go40 (p : Prgm) (hb : p.1.length ≤ 1000) : ∀ (m i : Nat) (a : Int) (out : List Int), i + m = p.1.length → out.length ≤ i →
    f40h0 a p.1 p.1.length i p.1 p.2.1 p.2.2.1 p.2.2.2.1 p.2.2.2.2 out = some ⟨[.slc 0, .dat tI (begGo p i a (p.1.drop i)).2], [(0, .arr tI (out ++ (begGo p i a (p.1.drop i)).1))]⟩ := by
  intro m
  induction m with
  | zero => intro i a out hi ho; rw [f40h0_eq, dlt_not (by omega), dnil (by omega)]; simp [begGo]
  | succ m ih =>
    intro i a out hi ho
    have hlt : i < p.1.length := by omega
    rw [f40h0_eq, dlt hlt, dle0, getN _ _ _ hlt, wsucc (by omega), dcons hlt, dT (p := (out.length + [a].length) * 8 ≤ 140737488355328) (by simp; omega)]
    simp only [cond_true]
    by_cases hn : i + 1 < p.1.length
    · rw [dlt hn, ih (i + 1) _ _ (by omega) (by simp; omega), dcons hn]
      have q : (true && decide ((i : Int) + 1 < (List.length p.1 : Int)) && decide (List.length p.1 ≤ 1000)) = true := by rw [dT (p := (i : Int) + 1 < (List.length p.1 : Int)) (by omega), dT hb]; rfl
      rw [cond_true, condT q]
      have e : (p.1, (p.2.1, (p.2.2.1, (p.2.2.2.1, p.2.2.2.2)))) = p := rfl
      rw [e, behind_eq p i hn]
      simp only [begGo, List.append_assoc, List.singleton_append]
      rfl
    · rw [dlt_not (i := i + 1) (n := p.1.length) (by omega), cond_false, ih (i + 1) _ _ (by omega) (by simp; omega), dnil (by omega)]
      simp [begGo]

theorem r40 : R40 := by
  intro a0 h
  simp only [decide_eq_true_eq] at h
  rw [f40_run]
  have := go40 a0 h a0.1.length 0 0 [] (by omega) (by simp)
  simpa using this


end Go.Ev.Y

set_option linter.unusedVariables false
set_option linter.unusedSimpArgs false
namespace Go.Ev.Y
open Go Go.Ev Go.Proofs
theorem checkItems_len {key : Bytes → Bool} {l : List Item} (h : checkItems key l = 0) : l.length ≤ 60 := by
  unfold checkItems at h
  cases h2 : decide ((l.length : Int) > 60) with
  | true => rw [h2] at h; simp at h
  | false =>
    have : ¬ (l.length : Int) > 60 := by simpa using h2
    omega

theorem checkProg_items {key : Bytes → Bool} {p : Prgm} (h : checkProg key p = 0) : checkItems key p.1 = 0 := by
  unfold checkProg at h
  cases h2 : checkItems key p.1 != 0 with
  | true => rw [h2, cond_true] at h; exact h
  | false => simpa using h2

theorem eta_p (p : Prgm) : (p.1, (p.2.1, (p.2.2.1, (p.2.2.2.1, p.2.2.2.2)))) = p := rfl

theorem begGo_len (p : Prgm) : ∀ (l : List Item) (i a : Int), (begGo p i a l).1.length = l.length
  | [], _, _ => rfl
  | [x], _, _ => rfl
  | x :: y :: l, i, a => by
    have := begGo_len p (y :: l) (i + 1) (wrap .i64 (wrap .i64 (a + x.2.2.1) + gapAt p i x y))
    simp only [begGo, List.length_cons] at this ⊢
    omega

theorem timGo_len (p : Prgm) : ∀ (l : List Item) (i a : Int), (timGo p i a l).length = l.length
  | [], _, _ => rfl
  | [x], _, _ => rfl
  | x :: y :: l, i, a => by
    have := timGo_len p (y :: l) (i + 1) (wrap .i64 (wrap .i64 (a + x.2.2.1) + gapAt p i x y))
    simp only [timGo, List.length_cons] at this ⊢
    omega

theorem fromF_prog {p : Prgm} {f : Int} (h : fromF p f = 0) : checkProg isKey p = 0 := by
  unfold fromF at h
  cases h2 : checkProg isKey p != 0 with
  | true => rw [h2, cond_true] at h; exact h
  | false => simpa using h2

theorem r11 : R11 := by
  intro a0 _
  rw [f11_run, eta_p]
  unfold longP
  cases h : checkProg isKey a0 != 0 with
  | true => rfl
  | false =>
    have h0 : checkProg isKey a0 = 0 := by simpa using h
    have := checkItems_len (checkProg_items h0)
    rw [dT (p := a0.1.length ≤ 1000) (by omega)]
    rfl

theorem beq_comm' (x y : Bytes) : (x == y) = (y == x) := by
  by_cases h : x = y
  · subst h; rfl
  · have h' : ¬ y = x := fun e => h e.symm
    rw [beq_eq_false_iff_ne.2 h, beq_eq_false_iff_ne.2 h']

theorem beq_timed (x y : Timed) : Tc.beq tTimed x y = (x == y) := rfl


end Go.Ev.Y

set_option linter.unusedVariables false
namespace Go.Ev
open Go Go.RowKit

theorem pure_sound {P : Program} {G : (Nat → Prop) → Array Obj → Prop} {f : FuncId} {md : List Bool} {ts : List Tc} {ok : Tup ts → Bool} {pat : Fr} {out : Tup ts → FV}
    (hp : ∀ x, fillF pat (undats ts x) = ⟨undats ts x, []⟩) (hr : ∀ x, resFV [out x] = out x)
    (h : ∀ x, ok x = true → ∀ (w : World) (V : Vw) (vals : List Value), V.h = w.heap → G V.S w.heap → RelVs V (undats ts x) vals →
      Calls P f vals.toArray w fun e w' => ∃ u, e = .returned u ∧ RowKit.Below w.heap.size w w' ∧ ∀ V', RelV V' (out x) u) :
    Sound P G f (genS md false pat ts ok (fun x => ⟨[out x], []⟩)) := by
  refine gen_of (P := P) (G := G) (f := f) (fun pk o => ∀ (vals : List Value) (w : World) (loc : Nat → Loc) (S : Nat → Prop), Core pk.reg loc S w.heap → G S w.heap →
    RelVs (view pk.reg loc S w.heap) pk.slots vals →
    Calls P f vals.toArray w fun e w' => ∃ u, e = .returned u ∧ Sm w w' ∧ ∃ loc' S', Ctx (entOf pk loc S w.heap) o.reg loc' S' w'.heap ∧
      (view pk.reg loc S w.heap).le (view o.reg loc' S' w'.heap) ∧ RelV (view o.reg loc' S' w'.heap) (resFV o.slots) u) ?_
  intro x hx vals w loc S hc hg hv
  rw [hp] at hc hv ⊢
  refine (h x hx w (view (Fr.reg ⟨undats ts x, []⟩) loc S w.heap) vals rfl hg hv).mono ?_
  rintro e w' ⟨u, rfl, hb, hu⟩
  refine ⟨u, rfl, ⟨hb.os, hb.output⟩, loc, S, ⟨⟨fun _ => trivial, fun _ _ h => h.elim, fun _ h => h.elim, fun b hb' => Nat.lt_of_lt_of_le (hc.bS b hb') hb.size⟩,
    ⟨hb.size, fun b hb' _ => hb.block b hb', fun _ h => h, fun _ h => .inl h, fun _ h => h.elim, fun _ _ ⟨_, h, _⟩ => h.elim, hc.bS, fun _ h => by cases h⟩⟩,
    ⟨fun _ _ h => h.elim, fun _ _ _ h => h.elim, fun _ _ _ _ h => h.elim, fun _ _ h => h.elim, fun b hb' => ⟨hb', hb.block b (hc.bS b hb')⟩⟩, ?_⟩
  rw [hr]; exact hu _

theorem enters_plain {P : Program} {f : FuncId} {fn : Func} (hf : P.funcs[f]? = some fn) {b : _} (hb : fn.body = some b) (hn : (fn.name == "runtime.NumGoroutine") = false) : Enters P f :=
  enters_of hf hb hn
end Go.Ev

/-
  DERIVED: THE SHELF's CONTRACTS AT THIS DUMP, IN PLAIN WORDS (tools/lay-plain.mjs out of 'GleeQs.lean', which tools/lay-shelf.mjs wrote): THE SAME DECLARATIONS UNDER THE SAME NAMES: 'import', 'namespace', 'open', 'def', 'theorem' AND NOTHING ELSE: no command of the shelf's: FOR A HAND-IN. Each laying: the table of numbers ('.._ren') and one theorem, a field a fact of the dump's own or the kernel's comparison; each contract: ONE APPLICATION.
-/
namespace Go.Proofs
open Go.Shelf
def Tryz.lays137_ren : Go.Shelf.Ren := ⟨fun | 137 => 103 | 217 => 120 | 266 => 150 | n => n, fun | 9 => 9 | 5 => 5 | 3 => 3 | n => n, fun | n => n⟩
theorem Tryz.lays137 : Go.Proofs.Lays.n137 Tryz.prog Tryz.lays137_ren := {
  mixed := by kernel_rfl
  f137 := Tryz.func103.trans (congrArg some (by kernel_rfl))
  f217 := Tryz.func120.trans (congrArg some (by kernel_rfl))
  f266 := Tryz.func150.trans (congrArg some (by kernel_rfl))
  t3 := Tryz.underlying3
  a3 := Tryz.isAgg3
  z3 := Tryz.sizeOf3
  v3 := Tryz.zeroValue3
  t5 := Tryz.underlying5
  a5 := Tryz.isAgg5
  z5 := Tryz.sizeOf5
  v5 := Tryz.zeroValue5
  t9 := Tryz.underlying9
  a9 := Tryz.isAgg9
  z9 := Tryz.sizeOf9
  v9 := Tryz.zeroValue9 }
def Tryz.lays160_ren : Go.Shelf.Ren := ⟨fun | 160 => 104 | 232 => 122 | 231 => 121 | 227 => 123 | 234 => 125 | 233 => 124 | 236 => 127 | 235 => 126 | 228 => 151 | 271 => 154 | 151 => 153 | 197 => 152 | 120 => 170 | 152 => 169 | 260 => 168 | 137 => 103 | 119 => 175 | 224 => 176 | 225 => 177 | 217 => 120 | 266 => 150 | n => n, fun | 9 => 9 | 4 => 4 | 3 => 3 | 5 => 5 | 117 => 175 | 116 => 174 | 0 => 0 | 124 => 178 | 21 => 21 | 105 => 209 | 46 => 164 | 119 => 230 | 139 => 233 | 138 => 232 | n => n, fun | 3 => 2 | 4 => 3 | n => n⟩
theorem Tryz.lays160 : Go.Proofs.Lays.n160 Tryz.prog Tryz.lays160_ren := {
  mixed := by kernel_rfl
  f119 := Tryz.func175.trans (congrArg some (by kernel_rfl))
  f120 := Tryz.func170.trans (congrArg some (by kernel_rfl))
  f137 := Tryz.func103.trans (congrArg some (by kernel_rfl))
  f151 := Tryz.func153.trans (congrArg some (by kernel_rfl))
  f152 := Tryz.func169.trans (congrArg some (by kernel_rfl))
  f160 := Tryz.func104.trans (congrArg some (by kernel_rfl))
  f197 := Tryz.func152.trans (congrArg some (by kernel_rfl))
  f217 := Tryz.func120.trans (congrArg some (by kernel_rfl))
  f224 := Tryz.func176.trans (congrArg some (by kernel_rfl))
  f225 := Tryz.func177.trans (congrArg some (by kernel_rfl))
  f227 := Tryz.func123.trans (congrArg some (by kernel_rfl))
  f228 := Tryz.func151.trans (congrArg some (by kernel_rfl))
  f231 := Tryz.func121.trans (congrArg some (by kernel_rfl))
  f232 := Tryz.func122.trans (congrArg some (by kernel_rfl))
  f233 := Tryz.func124.trans (congrArg some (by kernel_rfl))
  f234 := Tryz.func125.trans (congrArg some (by kernel_rfl))
  f235 := Tryz.func126.trans (congrArg some (by kernel_rfl))
  f236 := Tryz.func127.trans (congrArg some (by kernel_rfl))
  f260 := Tryz.func168.trans (congrArg some (by kernel_rfl))
  f266 := Tryz.func150.trans (congrArg some (by kernel_rfl))
  f271 := Tryz.func154.trans (congrArg some (by kernel_rfl))
  t0 := Tryz.underlying0
  a0 := Tryz.isAgg0
  z0 := Tryz.sizeOf0
  v0 := Tryz.zeroValue0
  t3 := Tryz.underlying3
  a3 := Tryz.isAgg3
  z3 := Tryz.sizeOf3
  v3 := Tryz.zeroValue3
  t4 := Tryz.underlying4
  a4 := Tryz.isAgg4
  z4 := Tryz.sizeOf4
  v4 := Tryz.zeroValue4
  t5 := Tryz.underlying5
  a5 := Tryz.isAgg5
  z5 := Tryz.sizeOf5
  v5 := Tryz.zeroValue5
  t9 := Tryz.underlying9
  a9 := Tryz.isAgg9
  z9 := Tryz.sizeOf9
  v9 := Tryz.zeroValue9
  t21 := Tryz.underlying21
  a21 := Tryz.isAgg21
  z21 := Tryz.sizeOf21
  v21 := Tryz.zeroValue21
  t46 := Tryz.underlying164
  a46 := Tryz.isAgg164
  z46 := Tryz.sizeOf164
  v46 := Tryz.zeroValue164
  t105 := Tryz.underlying209
  a105 := Tryz.isAgg209
  z105 := Tryz.sizeOf209
  v105 := Tryz.zeroValue209
  t116 := Tryz.underlying174
  a116 := Tryz.isAgg174
  z116 := Tryz.sizeOf174
  t117 := Tryz.underlying175
  a117 := Tryz.isAgg175
  z117 := Tryz.sizeOf175
  v117 := Tryz.zeroValue175
  t119 := Tryz.underlying230
  a119 := Tryz.isAgg230
  z119 := Tryz.sizeOf230
  t124 := Tryz.underlying178
  a124 := Tryz.isAgg178
  z124 := Tryz.sizeOf178
  v124 := Tryz.zeroValue178
  t138 := Tryz.underlying232
  a138 := Tryz.isAgg232
  z138 := Tryz.sizeOf232
  v138 := Tryz.zeroValue232
  t139 := Tryz.underlying233
  a139 := Tryz.isAgg233
  z139 := Tryz.sizeOf233
  v139 := Tryz.zeroValue233
  g3 := by kernel_rfl
  g4 := by kernel_rfl }
def Tryz.keys69_ren : Go.Shelf.Ren := ⟨fun | 7 => 69 | 10 => 93 | n => n, fun | 23 => 113 | 26 => 9 | 3 => 4 | 28 => 122 | 0 => 0 | 27 => 121 | 33 => 130 | 4 => 4 | n => n, fun | n => n⟩
theorem Tryz.keys69 : Go.Proofs.SlLaysZ.n7 Tryz.prog Tryz.keys69_ren := {
  mixed := by kernel_rfl
  f7 := ⟨Tryz.f69.name, by decide, Tryz.func69.trans (congrArg some (by kernel_rfl))⟩
  f10 := ⟨Tryz.f93.name, by decide, Tryz.func93.trans (congrArg some (by kernel_rfl))⟩
  t0 := Tryz.underlying0
  a0 := Tryz.isAgg0
  z0 := Tryz.sizeOf0
  v0 := Tryz.zeroValue0
  t4 := Tryz.underlying4
  a4 := Tryz.isAgg4
  z4 := Tryz.sizeOf4
  v4 := Tryz.zeroValue4
  t23 := Tryz.underlying113
  a23 := Tryz.isAgg113
  z23 := Tryz.sizeOf113
  v23 := Tryz.zeroValue113
  t26 := Tryz.underlying9
  a26 := Tryz.isAgg9
  z26 := Tryz.sizeOf9
  v26 := Tryz.zeroValue9
  t27 := Tryz.underlying121
  a27 := Tryz.isAgg121
  z27 := Tryz.sizeOf121
  v27 := Tryz.zeroValue121
  t28 := Tryz.underlying122
  a28 := Tryz.isAgg122
  z28 := Tryz.sizeOf122
  v28 := Tryz.zeroValue122
  t33 := Tryz.underlying130
  a33 := Tryz.isAgg130
  z33 := Tryz.sizeOf130
  v33 := Tryz.zeroValue130 }
def Tryz.keys96_ren : Go.Shelf.Ren := ⟨fun | 7 => 96 | 10 => 117 | n => n, fun | 23 => 145 | 26 => 9 | 3 => 146 | 28 => 122 | 0 => 0 | 27 => 121 | 33 => 130 | 4 => 4 | n => n, fun | n => n⟩
theorem Tryz.keys96 : Go.Proofs.SlLaysZ.n7 Tryz.prog Tryz.keys96_ren := {
  mixed := by kernel_rfl
  f7 := ⟨Tryz.f96.name, by decide, Tryz.func96.trans (congrArg some (by kernel_rfl))⟩
  f10 := ⟨Tryz.f117.name, by decide, Tryz.func117.trans (congrArg some (by kernel_rfl))⟩
  t0 := Tryz.underlying0
  a0 := Tryz.isAgg0
  z0 := Tryz.sizeOf0
  v0 := Tryz.zeroValue0
  t4 := Tryz.underlying4
  a4 := Tryz.isAgg4
  z4 := Tryz.sizeOf4
  v4 := Tryz.zeroValue4
  t23 := Tryz.underlying145
  a23 := Tryz.isAgg145
  z23 := Tryz.sizeOf145
  v23 := Tryz.zeroValue145
  t26 := Tryz.underlying9
  a26 := Tryz.isAgg9
  z26 := Tryz.sizeOf9
  v26 := Tryz.zeroValue9
  t27 := Tryz.underlying121
  a27 := Tryz.isAgg121
  z27 := Tryz.sizeOf121
  v27 := Tryz.zeroValue121
  t28 := Tryz.underlying122
  a28 := Tryz.isAgg122
  z28 := Tryz.sizeOf122
  v28 := Tryz.zeroValue122
  t33 := Tryz.underlying130
  a33 := Tryz.isAgg130
  z33 := Tryz.sizeOf130
  v33 := Tryz.zeroValue130 }
def Tryz.sorted68_ren : Go.Shelf.Ren := ⟨fun | 6 => 68 | 8 => 91 | 9 => 92 | 11 => 110 | 13 => 112 | 12 => 111 | 23 => 143 | 24 => 144 | 14 => 134 | 15 => 135 | 16 => 136 | 17 => 137 | 18 => 138 | 19 => 139 | 20 => 140 | 21 => 141 | 22 => 142 | 25 => 161 | 26 => 162 | 27 => 163 | 28 => 164 | 29 => 165 | 30 => 119 | 31 => 174 | n => n, fun | 26 => 9 | 28 => 122 | 24 => 46 | 0 => 0 | 3 => 3 | 37 => 164 | 48 => 195 | 50 => 180 | 4 => 4 | 40 => 188 | 39 => 187 | 45 => 139 | 5 => 5 | 9 => 9 | 51 => 215 | 55 => 219 | 57 => 227 | 58 => 228 | 33 => 130 | n => n, fun | n => n⟩
theorem Tryz.sorted68 : Go.Proofs.SlLaysZ.n6 Tryz.prog Tryz.sorted68_ren := {
  mixed := by kernel_rfl
  f6 := ⟨Tryz.f68.name, by decide, Tryz.func68.trans (congrArg some (by kernel_rfl))⟩
  f8 := ⟨Tryz.f91.name, by decide, Tryz.func91.trans (congrArg some (by kernel_rfl))⟩
  f11 := ⟨Tryz.f110.name, by decide, Tryz.func110.trans (congrArg some (by kernel_rfl))⟩
  t0 := Tryz.underlying0
  a0 := Tryz.isAgg0
  z0 := Tryz.sizeOf0
  v0 := Tryz.zeroValue0
  t24 := Tryz.underlying46
  a24 := Tryz.isAgg46
  z24 := Tryz.sizeOf46
  v24 := Tryz.zeroValue46
  t26 := Tryz.underlying9
  a26 := Tryz.isAgg9
  z26 := Tryz.sizeOf9
  v26 := Tryz.zeroValue9
  t28 := Tryz.underlying122
  a28 := Tryz.isAgg122
  z28 := Tryz.sizeOf122
  v28 := Tryz.zeroValue122
  i26 := by kernel_rfl }
def Tryz.sort92_ren : Go.Shelf.Ren := ⟨fun | 6 => 92 | 8 => 112 | 9 => 111 | 19 => 143 | 20 => 144 | 21 => 134 | 22 => 135 | 23 => 136 | 24 => 137 | 25 => 138 | 26 => 139 | 27 => 140 | 28 => 141 | 29 => 142 | 36 => 161 | 31 => 162 | 32 => 163 | 37 => 164 | 38 => 165 | 39 => 119 | 41 => 174 | n => n, fun | 27 => 46 | 29 => 9 | 3 => 3 | 32 => 164 | 26 => 46 | 0 => 0 | 44 => 195 | 46 => 180 | 4 => 4 | 36 => 188 | 35 => 187 | 41 => 139 | 5 => 5 | 9 => 9 | 53 => 215 | 57 => 219 | 63 => 227 | 64 => 228 | n => n, fun | n => n⟩
theorem Tryz.sort92 : Go.Proofs.SlLaysM.n6 Tryz.prog Tryz.sort92_ren := {
  mixed := by kernel_rfl
  f6 := ⟨Tryz.f92.name, by decide, Tryz.func92.trans (congrArg some (by kernel_rfl))⟩
  f8 := Tryz.func112.trans (congrArg some (by kernel_rfl))
  f9 := ⟨Tryz.f111.name, by decide, Tryz.func111.trans (congrArg some (by kernel_rfl))⟩
  f19 := Tryz.func143.trans (congrArg some (by kernel_rfl))
  f20 := Tryz.func144.trans (congrArg some (by kernel_rfl))
  f21 := ⟨Tryz.f134.name, by decide, Tryz.func134.trans (congrArg some (by kernel_rfl))⟩
  f22 := ⟨Tryz.f135.name, by decide, Tryz.func135.trans (congrArg some (by kernel_rfl))⟩
  f23 := ⟨Tryz.f136.name, by decide, Tryz.func136.trans (congrArg some (by kernel_rfl))⟩
  f24 := ⟨Tryz.f137.name, by decide, Tryz.func137.trans (congrArg some (by kernel_rfl))⟩
  f25 := ⟨Tryz.f138.name, by decide, Tryz.func138.trans (congrArg some (by kernel_rfl))⟩
  f26 := ⟨Tryz.f139.name, by decide, Tryz.func139.trans (congrArg some (by kernel_rfl))⟩
  f27 := ⟨Tryz.f140.name, by decide, Tryz.func140.trans (congrArg some (by kernel_rfl))⟩
  f28 := ⟨Tryz.f141.name, by decide, Tryz.func141.trans (congrArg some (by kernel_rfl))⟩
  f29 := ⟨Tryz.f142.name, by decide, Tryz.func142.trans (congrArg some (by kernel_rfl))⟩
  f31 := Tryz.func162.trans (congrArg some (by kernel_rfl))
  f32 := Tryz.func163.trans (congrArg some (by kernel_rfl))
  f36 := ⟨Tryz.f161.name, by decide, Tryz.func161.trans (congrArg some (by kernel_rfl))⟩
  f37 := ⟨Tryz.f164.name, by decide, Tryz.func164.trans (congrArg some (by kernel_rfl))⟩
  f38 := ⟨Tryz.f165.name, by decide, Tryz.func165.trans (congrArg some (by kernel_rfl))⟩
  f39 := ⟨Tryz.f119.name, by decide, Tryz.func119.trans (congrArg some (by kernel_rfl))⟩
  f41 := ⟨Tryz.f174.name, by decide, Tryz.func174.trans (congrArg some (by kernel_rfl))⟩
  t0 := Tryz.underlying0
  a0 := Tryz.isAgg0
  z0 := Tryz.sizeOf0
  v0 := Tryz.zeroValue0
  t3 := Tryz.underlying3
  a3 := Tryz.isAgg3
  z3 := Tryz.sizeOf3
  v3 := Tryz.zeroValue3
  t4 := Tryz.underlying4
  a4 := Tryz.isAgg4
  z4 := Tryz.sizeOf4
  v4 := Tryz.zeroValue4
  t5 := Tryz.underlying5
  a5 := Tryz.isAgg5
  z5 := Tryz.sizeOf5
  v5 := Tryz.zeroValue5
  t9 := Tryz.underlying9
  a9 := Tryz.isAgg9
  z9 := Tryz.sizeOf9
  v9 := Tryz.zeroValue9
  t26 := Tryz.underlying46
  a26 := Tryz.isAgg46
  z26 := Tryz.sizeOf46
  v26 := Tryz.zeroValue46
  t27 := Tryz.underlying46
  a27 := Tryz.isAgg46
  z27 := Tryz.sizeOf46
  v27 := Tryz.zeroValue46
  t29 := Tryz.underlying9
  a29 := Tryz.isAgg9
  z29 := Tryz.sizeOf9
  v29 := Tryz.zeroValue9
  t32 := Tryz.underlying164
  a32 := Tryz.isAgg164
  z32 := Tryz.sizeOf164
  v32 := Tryz.zeroValue164
  t35 := Tryz.underlying187
  a35 := Tryz.isAgg187
  z35 := Tryz.sizeOf187
  v35 := Tryz.zeroValue187
  t36 := Tryz.underlying188
  a36 := Tryz.isAgg188
  z36 := Tryz.sizeOf188
  v36 := Tryz.zeroValue188
  t41 := Tryz.underlying139
  a41 := Tryz.isAgg139
  z41 := Tryz.sizeOf139
  v41 := Tryz.zeroValue139
  t44 := Tryz.underlying195
  a44 := Tryz.isAgg195
  z44 := Tryz.sizeOf195
  v44 := Tryz.zeroValue195
  t46 := Tryz.underlying180
  a46 := Tryz.isAgg180
  z46 := Tryz.sizeOf180
  v46 := Tryz.zeroValue180
  t53 := Tryz.underlying215
  a53 := Tryz.isAgg215
  z53 := Tryz.sizeOf215
  v53 := Tryz.zeroValue215
  t57 := Tryz.underlying219
  a57 := Tryz.isAgg219
  z57 := Tryz.sizeOf219
  v57 := Tryz.zeroValue219
  t63 := Tryz.underlying227
  a63 := Tryz.isAgg227
  z63 := Tryz.sizeOf227
  v63 := Tryz.zeroValue227
  t64 := Tryz.underlying228
  a64 := Tryz.isAgg228
  z64 := Tryz.sizeOf228
  v64 := Tryz.zeroValue228 }
end Go.Proofs

set_option linter.unusedVariables false
set_option linter.unusedSimpArgs false
namespace Go.Ev.Y
open Go Go.Ev Go.Proofs
theorem r103 : R103 := by
  refine ⟨pure_sound (P := Tryz.prog) (G := En0.gl) (ts := [.str, .int .u8]) (out := fun x => .dat tI (indexB x.1 x.2.1)) (fun _ => rfl) (fun _ => rfl) ?_, enters_of Tryz.func103 rfl rfl⟩
  rintro ⟨s, c, _⟩ _ w V vals hV _ ⟨u1, us, rfl, h1, u2, us', rfl, h2, rfl⟩
  cases h1
  cases h2
  refine (Any.strings_IndexByte Tryz.lays137 ⟨List.toArray s⟩ c w).mono ?_
  rintro e w' ⟨rfl, rfl⟩
  exact ⟨_, rfl, RowKit.Below.refl _ _, fun _ => rfl⟩

theorem r104 : R104 := by
  refine ⟨pure_sound (P := Tryz.prog) (G := En0.gl) (ts := [.str, .str]) (out := fun x => .dat .str (trimB x.1 x.2.1)) (fun _ => rfl) (fun _ => rfl) ?_, enters_of Tryz.func104 rfl rfl⟩
  rintro ⟨s, c, _⟩ hok w V vals hV _ ⟨u1, us, rfl, h1, u2, us', rfl, h2, rfl⟩
  cases h1
  cases h2
  have hok' : (decide (List.length s ≤ 1000000) && decide (List.length c ≤ 1000) && c.all fun b => decide (b.toNat < 128)) = true := hok
  simp only [Bool.and_eq_true, decide_eq_true_eq] at hok'
  obtain ⟨⟨h1, h2⟩, h3⟩ := hok'
  refine (Any.strings_Trim_laid Tryz.lays160 (by kernel_rfl) ⟨List.toArray s⟩ ⟨List.toArray c⟩ w (by show (List.toArray s).size ≤ _; simp; omega) (by show (List.toArray c).size < _; simp; omega) (ascii_of_all h3)).mono ?_
  rintro e w' ⟨rfl, hb⟩
  exact ⟨_, rfl, hb, fun _ => rfl⟩

theorem indexByte_mem (b : UInt8) : ∀ (l : Bytes), decide (Lib.indexByte l b < 0) = !l.contains b
  | [] => rfl
  | x :: l => by
    have ih := indexByte_mem b l
    have hg := Lib.indexByte_ge l b
    unfold Lib.indexByte
    by_cases h : x = b
    · subst h; simp
    · have h1 : (x == b) = false := beq_eq_false_iff_ne.2 h
      have h2 : (b == x) = false := beq_eq_false_iff_ne.2 (fun e => h e.symm)
      rw [h1]
      simp only [List.contains_cons, h2, Bool.false_or, Bool.false_eq_true, if_false]
      rw [← ih]
      by_cases h3 : Lib.indexByte l b = -1
      · rw [h3]; rfl
      · have h4 : (Lib.indexByte l b == -1) = false := beq_eq_false_iff_ne.2 h3
        rw [h4]
        simp only [Bool.false_eq_true, if_false]
        rw [dF (by omega), dF (by omega)]

theorem toU (b : UInt8) : (Int.toNat ((b.toNat : Nat) : Int)).toUInt8 = b := by
  show (b.toNat).toUInt8 = b
  exact UInt8.ofNat_toNat

theorem only_all (s cs : Bytes) : onlyB s cs = s.all fun b => cs.contains b := by
  unfold onlyB
  congr 1
  funext b
  unfold indexB
  rw [toU, indexByte_mem, Bool.not_not]

theorem dw_nil {α : Type} (p : α → Bool) : ∀ (l : List α), l.dropWhile p = [] ↔ ∀ x ∈ l, p x = true
  | [] => by simp
  | x :: l => by
    rw [List.dropWhile_cons]
    cases h : p x with
    | true => simp [h, dw_nil p l]
    | false => simp [h]

theorem trim_nil (s cs : Bytes) : (trimB s cs == []) = s.all fun b => cs.contains b := by
  unfold trimB Lib.trimS Lib.trimLeftS Lib.trimRightS
  rw [Bool.eq_iff_iff, beq_iff_eq, dw_nil, List.all_eq_true]
  constructor
  · intro h
    -- a byte beyond the set would stay
    have h' : ∀ x ∈ s.reverse.dropWhile (fun b => cs.contains b), cs.contains x = true := fun x hx => h x (by simpa using hx)
    have h2 : s.reverse.dropWhile (fun b => cs.contains b) = [] := by
      cases hd : s.reverse.dropWhile (fun b => cs.contains b) with
      | nil => rfl
      | cons x l =>
        have := List.head?_dropWhile_not (fun b => cs.contains b) s.reverse
        rw [hd] at this h'
        simp only [List.head?_cons] at this
        have h3 := h' x (List.mem_cons_self ..)
        simp only [h3] at this
        simp at this
    rw [dw_nil] at h2
    exact fun x hx => h2 x (by simpa using hx)
  · intro h x hx
    have := (List.dropWhile_sublist (fun b => cs.contains b) (l := s.reverse)).subset (by simpa using hx)
    exact h x (by simpa using this)

theorem isKey_eq (s : Bytes) : isKey s = keyR s := by
  unfold isKey keyR
  rw [trim_nil, only_all, only_all]
  cases s with
  | nil => rfl
  | cons x l =>
    have e1 : (!((x :: l : Bytes) == [])) = true := rfl
    have e2 : inR ((x :: l : Bytes).length : Int) 1 40 = decide (((x :: l : Bytes).length : Int) ≤ 40) := by
      unfold inR
      rw [dT (p := (1 : Int) ≤ ((x :: l : Bytes).length : Int)) (by simp; omega), Bool.true_and]
    have e3 : ((x :: l : Bytes).getD 0 0) = x := rfl
    have e4 : (x :: l : Bytes).take 1 = [x] := rfl
    have e5 : decide (indexB smallsB ((x.toNat : Nat) : Int) ≥ 0) = smallsB.contains x := by
      unfold indexB
      rw [toU]
      have := indexByte_mem x smallsB
      by_cases h : Lib.indexByte smallsB x < 0
      · rw [dT h] at this
        rw [dF (by omega)]
        cases hc : smallsB.contains x <;> rw [hc] at this <;> first | rfl | cases this
      · rw [dF h] at this
        rw [dT (by omega)]
        cases hc : smallsB.contains x <;> rw [hc] at this <;> first | rfl | cases this
    rw [e1, e2, e3, e4, e5, Bool.true_and]
    simp only [List.all_cons, List.all_nil, Bool.and_true]

theorem isKey_fun : isKey = keyR := funext isKey_eq


end Go.Ev.Y

set_option linter.unusedVariables false
set_option linter.unusedSimpArgs false
namespace Go.Ev.Y
open Go Go.Ev Go.Proofs
def itemOkB (x : Item) : Bool := isKey x.1 && (isKey x.2.1 && (!outside x.2.2.1 1 86400000 && (partsF isKey x.2.2.2 == 0)))

theorem itemsGo_ok : ∀ (l pre : List Item), (∀ x ∈ l, itemOkB x = true) → ((pre ++ l).map fun x => x.1).Nodup → itemsGo isKey pre l = 0
  | [], pre, _, _ => rfl
  | x :: l, pre, h, hn => by
    have hx := h x List.mem_cons_self
    simp only [itemOkB, Bool.and_eq_true, Bool.not_eq_true', beq_iff_eq] at hx
    obtain ⟨h1, h2, h3, h4⟩ := hx
    have hany : (pre.any fun o => o.1 == x.1) = false := by
      rw [List.any_eq_false]
      intro o ho e
      have e' : o.1 = x.1 := by simpa using e
      rw [List.map_append, List.nodup_append] at hn
      exact hn.2.2 o.1 (List.mem_map_of_mem ho) x.1 (by simp) e'
    have hr := itemsGo_ok l (pre ++ [x]) (fun y hy => h y (List.mem_cons_of_mem _ hy)) (by simpa using hn)
    simp only [itemsGo, h1, h2, hany, h3, h4, Bool.not_true, Bool.or_self, cond_false]
    exact hr

theorem checkProg_ok (p : Prgm) (hl : p.1.length ≤ 5) (hi : ∀ x ∈ p.1, itemOkB x = true) (hn : (p.1.map fun x => x.1).Nodup) (h1 : outside p.2.1 0 86400000 = false) (h2 : outside p.2.2.1 0 86400000 = false) (h3 : outside p.2.2.2.1 0 86400000 = false)
    (h4 : outside p.2.2.2.2 (-1) (mx (-1) (wrap .i64 ((p.1.length : Int) - 2))) = false) : checkProg isKey p = 0 := by
  have hc : checkItems isKey p.1 = 0 := by
    unfold checkItems
    rw [dF (by omega), cond_false]
    exact itemsGo_ok p.1 [] hi (by simpa using hn)
  unfold checkProg
  rw [hc, h1, h2, h3, h4]; rfl

/-- All lists that leave some of a list out. -/
def subsG (l : List Bytes) : List (List Bytes) := l.foldl (fun s x => s ++ s.map fun p => p ++ [x]) [[]]

theorem subsG_snoc (l : List Bytes) (x : Bytes) : subsG (l ++ [x]) = subsG l ++ (subsG l).map fun p => p ++ [x] := by simp [subsG, List.foldl_append]

def partsL : List Bytes := [[97, 108, 116, 111], [98, 97, 115, 115], [115, 111, 108, 105]]

theorem parts_good : (subsG partsL).all (fun p => p.isEmpty || (partsF isKey p == 0 && Nat.ble p.length 3)) = true := by kernel_rfl
theorem places_good : ([[114, 111, 119, 115], [114, 111, 119, 115], [99, 105, 114, 99, 108, 101]] : List Bytes).all isKey = true := by kernel_rfl
theorem keys_good : ([[99], [97], [100], [98], [101]] : List Bytes).all isKey = true := by kernel_rfl
theorem alto_good : (partsF isKey [[97, 108, 116, 111]] == 0) = true := by kernel_rfl
theorem longs_good : ([(50 : Int), (100 : Int), (100 : Int), (200 : Int)]).all (fun n => !outside n 1 86400000) = true := by kernel_rfl

theorem getD_in {α : Type} (l : List α) (d : α) {i : Int} (h0 : 0 ≤ i) (h : i < (l.length : Int)) : l.getD i.toNat d ∈ l := by
  have : i.toNat < l.length := by omega
  rw [List.getD_eq_getElem?_getD, List.getElem?_eq_getElem this]
  exact List.getElem_mem this

theorem pick_in (L : List Int) (a : Int) (l : List Int) (h : 1 ≤ l.length) (h2 : l.length ≤ 1000) : pick L a l ∈ l := by
  obtain ⟨q1, q2⟩ := next_range L a (n := l.length) (by omega) (by omega)
  exact getD_in l _ q1 q2
theorem some_in (L : List Int) (a : Int) (l : List Bytes) (h : 1 ≤ l.length) (h2 : l.length ≤ 1000) : some_ L a l ∈ l := by
  obtain ⟨q1, q2⟩ := next_range L a (n := l.length) (by omega) (by omega)
  exact getD_in l _ q1 q2

def QRp (L : List Int) (a b : Int) (f : Fr) : Prop := ∃ (a' : Int) (items : List Item) (p q r s : Int),
  f = ⟨[.agg [.slc 2, .dat tI p, .dat tI q, .dat tI r, .dat tI s]], [(0, .box [.dat (.slice tI) L, .dat tI a']), (2, .arr tItem items)]⟩ ∧ a ≤ a' ∧ a' ≤ b ∧ items.length ≤ 5 ∧ (∀ x ∈ items, x.2.2.2.length ≤ 5) ∧ checkProg isKey (items, (p, (q, (r, s)))) = 0

theorem rp2 (x0 : List Bytes) (x1 x2 : Int) (L : List Int) (z1 z2 z3 z4 p q r s : Int) (n g : Bytes) (lg : Int) (nl : List Bytes) (hn : nl.length ≤ 3) (items : List Item) (hi : items.length ≤ 4) : ∀ (m k : Nat) (a : Int) (parts : List Bytes),
    k + m = nl.length → 0 ≤ a → a + m ≤ 1099511627776 → parts.length ≤ k → parts ∈ subsG (nl.take k) →
    ∃ (a' : Int) (pt : List Bytes), f8h2 x0 x1 x2 nl.length k L a z1 z2 z3 z4 p q r s n g lg nl items parts = f8h0 x0 x1 (wrap .i64 (x2 + 1)) L a' z1 z2 z3 z4 p q r s (items ++ [(n, (g, (lg, pt)))]) ∧
      a ≤ a' ∧ a' ≤ a + m ∧ pt.length ≤ 5 ∧ (pt = [[97, 108, 116, 111]] ∨ (pt ∈ subsG nl ∧ pt ≠ [])) := by
  intro m
  induction m with
  | zero =>
    intro k a parts hk h0 ha hp hs
    rw [f8h2_eq, dlt_not (i := k) (n := nl.length) (by omega), cond_false]
    cases hz : ((parts.length : Int) == 0) with
    | true =>
      refine ⟨a, [[97, 108, 116, 111]], ?_, by omega, by omega, by simp, .inl rfl⟩
      rw [cond_true]
      exact condT (dT (by simp; omega))
    | false =>
      refine ⟨a, parts, ?_, by omega, by omega, by omega, .inr ⟨?_, ?_⟩⟩
      · rw [cond_false]
        exact condT (dT (by simp; omega))
      · rw [List.take_of_length_le (by omega)] at hs; exact hs
      · rintro rfl; simp at hz
  | succ m ih =>
    intro k a parts hk h0 ha hp hs
    have hlt : k < nl.length := by omega
    rw [f8h2_eq, dlt hlt, dle0, getN _ _ _ hlt, wsucc (by omega), dT (p := Int.toNat (k : Int) < nl.length) (by simpa using hlt), atOk_t h0 (by omega), nextAt_s h0 (by omega)]
    simp only [cond_true]
    have htk : nl.take (k + 1) = nl.take k ++ [nl[k]] := (List.take_append_getElem hlt).symm
    cases next L a 2 == 0 with
    | true =>
      obtain ⟨a', it, e, h1, h2, h3⟩ := ih (k + 1) (a + 1) (parts ++ [nl[k]]) (by omega) (by omega) (by omega) (by simp; omega) (by rw [htk, subsG_snoc]; exact List.mem_append_right _ (List.mem_map_of_mem hs))
      refine ⟨a', it, ?_, by omega, by omega, h3⟩
      rw [cond_true, condT (dT (by simp; omega))]; exact e
    | false =>
      obtain ⟨a', it, e, h1, h2, h3⟩ := ih (k + 1) (a + 1) parts (by omega) (by omega) (by omega) (by omega) (by rw [htk, subsG_snoc]; exact List.mem_append_left _ hs)
      exact ⟨a', it, e, by omega, by omega, h3⟩

theorem QRp_mono {L : List Int} {a b c d : Int} (h1 : c ≤ a) (h2 : b ≤ d) {o : Option Fr} (h : Ends (QRp L a b) o) : Ends (QRp L c d) o := by
  refine ends_mono h ?_
  rintro f ⟨a', it, p, q, r, s, e, h3, h4, h5⟩
  exact ⟨a', it, p, q, r, s, e, by omega, by omega, h5⟩

theorem out_f {n lo hi : Int} (h1 : lo ≤ n) (h2 : n ≤ hi) : outside n lo hi = false := by
  unfold outside
  rw [dF (by omega), dF (by omega)]; rfl

theorem rp0 (xs : List Bytes) (hx : xs.length ≤ 5) (hxk : ∀ k ∈ xs, isKey k = true) (hxn : xs.Nodup) (L : List Int) (z1 z2 z3 z4 p q r : Int) (hp1 : outside p 0 86400000 = false) (hq1 : outside q 0 86400000 = false) (hr1 : outside r 0 86400000 = false) : ∀ (m i : Nat) (a : Int) (items : List Item),
    i + m = xs.length → 0 ≤ a → a + 10 * m + 10 ≤ 1099511627776 → items.length ≤ i → (∀ x ∈ items, x.2.2.2.length ≤ 5 ∧ itemOkB x = true) → (items.map fun x => x.1).Sublist (xs.take i) →
    Ends (QRp L a (a + 10 * m + 10)) (f8h0 xs xs.length i L a z1 z2 z3 z4 p q r (-1) items) := by
  intro m
  induction m with
  | zero =>
    intro i a items hi h0 ha hl hp hsub
    rw [f8h0_eq, dlt_not (i := i) (n := xs.length) (by omega), cond_false]
    have hnd : (items.map fun x => x.1).Nodup := (hsub.trans (List.take_sublist _ _)).nodup hxn
    have leaf : ∀ (a' s' : Int), a ≤ a' → a' ≤ a + 10 → outside s' (-1) (mx (-1) (wrap .i64 ((items.length : Int) - 2))) = false → Ends (QRp L a (a + 10 * (0 : Nat) + 10)) (some ⟨[.agg [.slc 2, .dat tI p, .dat tI q, .dat tI r, .dat tI s']], [(0, .box [.dat (.slice tI) L, .dat tI a']), (2, .arr tItem items)]⟩) :=
      fun a' s' h1 h2 h3 => ends_some ⟨a', items, p, q, r, s', rfl, h1, by omega, by omega, fun x hx => (hp x hx).1, checkProg_ok (items, (p, (q, (r, s')))) (by show items.length ≤ 5; omega) (fun x hx => (hp x hx).2) hnd hp1 hq1 hr1 h3⟩
    have hm1 : outside (-1) (-1) (mx (-1) (wrap .i64 ((items.length : Int) - 2))) = false := by
      refine out_f (by omega) ?_
      unfold mx; split <;> omega
    have hw2 : wrap .i64 ((items.length : Int) - 2) = (items.length : Int) - 2 := wrap_in (by omega) (by omega)
    have hw1 : wrap .i64 ((items.length : Int) - 1) = (items.length : Int) - 1 := wrap_in (by omega) (by omega)
    refine ends_cond (fun hg => ?_) (fun _ => leaf a (-1) (by omega) (by omega) hm1)
    have hg' : (items.length : Int) > 1 := by simpa using hg
    rw [atOk_t h0 (by omega), nextAt_s h0 (by omega), atOk_t (k := 1) (a := a + 1) (by omega) (by omega), nextAt_s (a := a + 1) (by omega) (by omega)]
    simp only [cond_true]
    refine ends_cond (fun _ => leaf _ _ (by omega) (by omega) ?_) (fun _ => leaf _ _ (by omega) (by omega) hm1)
    rw [hw1, hw2]
    obtain ⟨q1, q2⟩ := next_range L (a + 1) (n := (items.length : Int) - 1) (by omega) (by omega)
    refine out_f (by omega) ?_
    unfold mx; split <;> omega
  | succ m ih =>
    intro i a items hi h0 ha hl hp hsub
    have hlt : i < xs.length := by omega
    have htk : xs.take (i + 1) = xs.take i ++ [xs[i]] := (List.take_append_getElem hlt).symm
    rw [f8h0_eq, dlt hlt, dle0, getN _ _ _ hlt, wsucc (by omega), atOk_t h0 (by omega), nextAt_s h0 (by omega), atOk_t (k := 1) (a := a + 1) (by omega) (by omega), nextAt_s (a := a + 1) (by omega) (by omega),
      atOk_t (k := 1) (a := a + 1 + 1) (by omega) (by omega), nextAt_s (a := a + 1 + 1) (by omega) (by omega)]
    simp only [cond_true]
    refine ends_cond (fun _ => ?_) (fun _ => ?_)
    · exact QRp_mono (by omega) (by omega) (ih (i + 1) (a + 1) items (by omega) (by omega) (by omega) (by omega) hp (by rw [htk]; exact hsub.trans (List.sublist_append_left _ _)))
    · refine ends_if rfl (ends_if rfl ?_)
      obtain ⟨a', pt, e, h1, h2, h3, h4⟩ := rp2 xs xs.length i L z1 z2 z3 z4 p q r (-1) xs[i] (some_ L (a + 1) [[114, 111, 119, 115], [114, 111, 119, 115], [99, 105, 114, 99, 108, 101]]) (pick L (a + 1 + 1) [(50 : Int), (100 : Int), (100 : Int), (200 : Int)])
        partsL (by decide) items (by omega) 3 0 (a + 1 + 1 + 1) [] (by decide) (by omega) (by omega) (by simp) (by simp [subsG])
      rw [wsucc (by omega)] at e
      have e' : f8h2 xs xs.length i ((List.length ([[97, 108, 116, 111], [98, 97, 115, 115], [115, 111, 108, 105]] : List Bytes) : Nat) : Int) (0 : Int) L (a + 1 + 1 + 1) z1 z2 z3 z4 p q r (-1) xs[i] (some_ L (a + 1) [[114, 111, 119, 115], [114, 111, 119, 115], [99, 105, 114, 99, 108, 101]]) (pick L (a + 1 + 1) [(50 : Int), (100 : Int), (100 : Int), (200 : Int)])
        [[97, 108, 116, 111], [98, 97, 115, 115], [115, 111, 108, 105]] items [] = _ := e
      rw [e']
      refine QRp_mono (by omega) (by omega) (ih (i + 1) a' _ (by omega) (by omega) (by omega) (by simp; omega) ?_ ?_)
      · intro x hx
        rcases List.mem_append.1 hx with h | h
        · exact hp x h
        · rw [List.mem_singleton.1 h]
          refine ⟨h3, ?_⟩
          have k1 := hxk _ (List.getElem_mem hlt)
          have k2 := List.all_eq_true.1 places_good _ (some_in L (a + 1) [[114, 111, 119, 115], [114, 111, 119, 115], [99, 105, 114, 99, 108, 101]] (by decide) (by decide))
          have k3 := List.all_eq_true.1 longs_good _ (pick_in L (a + 1 + 1) [(50 : Int), (100 : Int), (100 : Int), (200 : Int)] (by decide) (by decide))
          have k4 : (partsF isKey pt == 0) = true := by
            rcases h4 with rfl | ⟨h5, h6⟩
            · exact alto_good
            · have := List.all_eq_true.1 parts_good _ h5
              simp only [Bool.or_eq_true, Bool.and_eq_true] at this
              rcases this with h7 | h7
              · exact absurd (by simpa using h7) h6
              · exact h7.1
          unfold itemOkB
          rw [k1, k2, k3, k4]; rfl
      · rw [htk, List.map_append]
        exact List.Sublist.append hsub (List.Sublist.refl _)

theorem rp_ends (L : List Int) (at_ n : Int) (h : (atOk 1000 at_ && decide (0 ≤ n) && decide (n ≤ 5)) = true) :
    Ends (QRp L at_ (at_ + 100)) (I8.run ⟨[.ptr 0 0, .dat tI n], [(0, .box [.dat (.slice tI) L, .dat tI at_])]⟩) := by
  simp only [Bool.and_eq_true, decide_eq_true_eq] at h
  obtain ⟨⟨h1, h2⟩, h3⟩ := h
  have h1 := atOk_iff.1 h1
  have b1 : ∀ n ∈ ([(0 : Int), 30, 50] : List Int), outside n 0 86400000 = false := by intro n hn; simp at hn; rcases hn with rfl | rfl | rfl <;> rfl
  have b2 : ∀ n ∈ ([(0 : Int), 10, 30] : List Int), outside n 0 86400000 = false := by intro n hn; simp at hn; rcases hn with rfl | rfl | rfl <;> rfl
  have b3 : ∀ n ∈ ([(0 : Int), 100] : List Int), outside n 0 86400000 = false := by intro n hn; simp at hn; rcases hn with rfl | rfl <;> rfl
  have c1 := b1 _ (pick_in L at_ [(0 : Int), 30, 50] (by decide) (by decide))
  have c2 := b2 _ (pick_in L (at_ + 1) [(0 : Int), 10, 30] (by decide) (by decide))
  have c3 := b3 _ (pick_in L (at_ + 1 + 1) [(0 : Int), 100] (by decide) (by decide))
  rw [f8_run, atOk_t h1.1 (by omega), nextAt_s h1.1 (by omega), atOk_t (k := 1) (a := at_ + 1) (by omega) (by omega), nextAt_s (a := at_ + 1) (by omega) (by omega),
      atOk_t (k := 1) (a := at_ + 1 + 1) (by omega) (by omega), nextAt_s (a := at_ + 1 + 1) (by omega) (by omega)]
  refine ends_if rfl (ends_if rfl (ends_if rfl (ends_if rfl (ends_if (dT h2) (ends_if (dT h3) ?_)))))
  generalize hx : List.drop (Int.toNat 0) (List.take (Int.toNat n) ([[99], [97], [100], [98], [101]] : List Bytes)) = xs
  have hsl : xs.Sublist ([[99], [97], [100], [98], [101]] : List Bytes) := by rw [← hx]; exact (List.drop_sublist _ _).trans (List.take_sublist _ _)
  have hl : xs.length ≤ 5 := hsl.length_le
  exact QRp_mono (by omega) (by omega) (rp0 xs hl (fun k hk => List.all_eq_true.1 keys_good k (hsl.subset hk)) (hsl.nodup (by decide)) L 0 0 0 0 _ _ _ c1 c2 c3 xs.length 0 (at_ + 1 + 1 + 1) [] (by omega) (by omega) (by omega) (by simp) (by simp) (by simp))

theorem rightP_spec (L : List Int) (at_ n : Int) (h : (atOk 1000 at_ && decide (0 ≤ n) && decide (n ≤ 5)) = true) :
    (at_ ≤ (rightP L at_ n).1 ∧ (rightP L at_ n).1 ≤ at_ + 200 ∧ (rightP L at_ n).2.1.length ≤ 5 ∧ (∀ x ∈ (rightP L at_ n).2.1, x.2.2.2.length ≤ 5) ∧ checkProg isKey (rightP L at_ n).2 = 0) ∧
    I8.run ⟨[.ptr 0 0, .dat tI n], [(0, .box [.dat (.slice tI) L, .dat tI at_])]⟩ = some ⟨[.agg [.slc 2, .dat tI (rightP L at_ n).2.2.1, .dat tI (rightP L at_ n).2.2.2.1, .dat tI (rightP L at_ n).2.2.2.2.1, .dat tI (rightP L at_ n).2.2.2.2.2]],
      [(0, .box [.dat (.slice tI) L, .dat tI (rightP L at_ n).1]), (2, .arr tItem (rightP L at_ n).2.1)]⟩ := by
  obtain ⟨f, hf, a', items, p, q, r, s, rfl, h1, h2, h3, h4, h5⟩ := rp_ends L at_ n h
  refine Classical.epsilon_spec (p := fun p : Int × List Item × Int × Int × Int × Int => (at_ ≤ p.1 ∧ p.1 ≤ at_ + 200 ∧ p.2.1.length ≤ 5 ∧ (∀ x ∈ p.2.1, x.2.2.2.length ≤ 5) ∧ checkProg isKey p.2 = 0) ∧
    I8.run ⟨[.ptr 0 0, .dat tI n], [(0, .box [.dat (.slice tI) L, .dat tI at_])]⟩ = some ⟨[.agg [.slc 2, .dat tI p.2.2.1, .dat tI p.2.2.2.1, .dat tI p.2.2.2.2.1, .dat tI p.2.2.2.2.2]], [(0, .box [.dat (.slice tI) L, .dat tI p.1]), (2, .arr tItem p.2.1)]⟩)
    ⟨(a', items, p, q, r, s), ⟨h1, by show a' ≤ _; omega, h3, h4, h5⟩, hf⟩

theorem r8 : R8 := fun a0 L at_ h => (rightP_spec L at_ a0 h).2

end Go.Ev.Y

set_option linter.unusedVariables false
set_option linter.unusedSimpArgs false
namespace Go.Ev.Y
open Go Go.Ev Go.Proofs
theorem outside_false {n lo hi : Int} (h : outside n lo hi = false) : lo ≤ n ∧ n ≤ hi := by
  unfold outside at h
  simp at h
  omega
theorem r19 : R19 := by
  intro a0 h
  simp only [decide_eq_true_eq] at h
  rw [f19_run, condT (dT (by simp; omega))]
  cases a0 with
  | nil => simp [both_self]
  | cons x l => simp

theorem cmpI_eq (x y : Int) : t73_0 x y = cmpI x y := by
  unfold t73_0 t73
  simp [t99_0, t99, cmpI]
theorem go43 (a b : List Int) (ha : a.length ≤ 1000) : ∀ (m i : Nat), i + m = a.length → i ≤ b.length →
    f43h0 a b a a.length i = some ⟨[.dat tI (cmpGo (a.drop i) (b.drop i))], []⟩ := by
  intro m
  induction m with
  | zero =>
    intro i hi hb
    rw [f43h0_eq, condF (dlt_not (by omega)), dnil (xs := a) (i := i) (by omega)]
    by_cases h : i < b.length
    · rw [condT (dT (by omega)), dcons h]; rfl
    · rw [condF (dF (by omega)), dnil (xs := b) (i := i) (by omega)]; rfl
  | succ m ih =>
    intro i hi hb
    have hlt : i < a.length := by omega
    rw [f43h0_eq]
    rw [condT (dT (by first | omega | (simp only [List.length_append, List.length_cons, List.length_nil, List.length_set, List.length_take, List.length_drop, List.length_map]; omega) | (simp; omega)))]
    rw [condT (dT (by first | omega | (simp only [List.length_append, List.length_cons, List.length_nil, List.length_set, List.length_take, List.length_drop, List.length_map]; omega) | (simp; omega)))]
    rw [condT (dT (by first | omega | (simp only [List.length_append, List.length_cons, List.length_nil, List.length_set, List.length_take, List.length_drop, List.length_map]; omega) | (simp; omega)))]
    by_cases h : i < b.length
    · rw [condF (dF (by omega))]
      rw [condT (dT (by first | omega | (simp only [List.length_append, List.length_cons, List.length_nil, List.length_set, List.length_take, List.length_drop, List.length_map]; omega) | (simp; omega)))]
      rw [condT (dT (by first | omega | (simp only [List.length_append, List.length_cons, List.length_nil, List.length_set, List.length_take, List.length_drop, List.length_map]; omega) | (simp; omega)))]
      rw [getN _ _ _ hlt, getN _ _ _ h, cmpI_eq, wsucc (by omega), ih (i + 1) (by omega) (by omega), dcons hlt, dcons h, cmpGo]
      show cond (!(cmpI a[i] b[i] == 0)) _ _ = _
      cases cmpI a[i] b[i] == 0 <;> rfl
    · rw [condT (dT (by omega)), dcons hlt, dnil (xs := b) (i := i) (by omega)]; rfl
theorem r43 : R43 := by
  intro a0 a1 h
  simp only [decide_eq_true_eq] at h
  rw [f43_run]
  exact go43 a0 a1 h a0.length 0 (by omega) (by omega)

/-! ### stable sorting of few -/
theorem swapG_eq {α : Type} (l : List α) (j : Nat) (h : j + 1 < l.length) : swapG l j = (l.set (j + 1) (l[j]'(by omega))).set j l[j + 1] := by
  unfold swapG
  rw [List.getElem?_eq_getElem (by omega), List.getElem?_eq_getElem h]
theorem ltG_eq {α : Type} (lt : α → α → Bool) (l : List α) (j : Nat) (h : j + 1 < l.length) : ltG lt l j = lt l[j + 1] (l[j]'(by omega)) := by
  unfold ltG
  rw [List.getElem?_eq_getElem h, List.getElem?_eq_getElem (show j < l.length by omega)]
theorem swapG_len {α : Type} (l : List α) (j : Nat) : (swapG l j).length = l.length := by
  unfold swapG
  cases l[j]? <;> cases l[j + 1]? <;> simp
theorem sinkG_len {α : Type} (lt : α → α → Bool) : ∀ (j : Nat) (l : List α), (sinkG lt j l).length = l.length
  | 0, l => rfl
  | j + 1, l => by
    unfold sinkG
    cases ltG lt l j with
    | true => rw [cond_true, sinkG_len lt j, swapG_len]
    | false => rfl
theorem sortGoG_len {α : Type} (lt : α → α → Bool) : ∀ (m i : Nat) (l : List α), (sortGoG lt m i l).length = l.length
  | 0, i, l => rfl
  | m + 1, i, l => by unfold sortGoG; rw [sortGoG_len lt m, sinkG_len]
theorem sortG_len {α : Type} (lt : α → α → Bool) (l : List α) : (sortG lt l).length = l.length := sortGoG_len _ _ _ _
theorem swapG_map {α β : Type} (f : α → β) (l : List α) (j : Nat) : swapG (l.map f) j = (swapG l j).map f := by
  unfold swapG
  rw [List.getElem?_map, List.getElem?_map]
  cases l[j]? <;> cases l[j + 1]? <;> simp [List.map_set]
theorem ltG_map {α β : Type} (f : α → β) (lt : α → α → Bool) (lt' : β → β → Bool) (h : ∀ a b, lt' (f a) (f b) = lt a b) (l : List α) (j : Nat) : ltG lt' (l.map f) j = ltG lt l j := by
  unfold ltG
  rw [List.getElem?_map, List.getElem?_map]
  cases l[j]? <;> cases l[j + 1]? <;> simp [h]
theorem sinkG_map {α β : Type} (f : α → β) (lt : α → α → Bool) (lt' : β → β → Bool) (h : ∀ a b, lt' (f a) (f b) = lt a b) : ∀ (j : Nat) (l : List α), sinkG lt' j (l.map f) = (sinkG lt j l).map f
  | 0, l => rfl
  | j + 1, l => by
    unfold sinkG
    rw [ltG_map f lt lt' h, swapG_map, sinkG_map f lt lt' h j]
    cases ltG lt l j <;> rfl
theorem sortGoG_map {α β : Type} (f : α → β) (lt : α → α → Bool) (lt' : β → β → Bool) (h : ∀ a b, lt' (f a) (f b) = lt a b) : ∀ (m i : Nat) (l : List α), sortGoG lt' m i (l.map f) = (sortGoG lt m i l).map f
  | 0, i, l => rfl
  | m + 1, i, l => by unfold sortGoG; rw [sinkG_map f lt lt' h, sortGoG_map f lt lt' h m]
theorem sortG_map {α β : Type} (f : α → β) (lt : α → α → Bool) (lt' : β → β → Bool) (h : ∀ a b, lt' (f a) (f b) = lt a b) (l : List α) : sortG lt' (l.map f) = (sortG lt l).map f := by
  unfold sortG
  rw [List.length_map, sortGoG_map f lt lt' h]

theorem idxBy_split {α : Type} (p : α → Bool) : ∀ (l : List α) (s : Nat), (idxBy p l s = -1 ∧ l.filter (fun o => !p o) = l) ∨
    ∃ n, n < l.length ∧ idxBy p l s = ((s + n : Nat) : Int) ∧ l.take n ++ (l.drop (n + 1)).filter (fun o => !p o) = l.filter (fun o => !p o)
  | [], s => .inl ⟨rfl, rfl⟩
  | x :: l, s => by
    cases hx : p x with
    | true => exact .inr ⟨0, by simp, by simp [idxBy, hx], by simp [hx]⟩
    | false =>
      rcases idxBy_split p l (s + 1) with ⟨h1, h2⟩ | ⟨n, h1, h2, h3⟩
      · refine .inl ⟨?_, ?_⟩
        · simp only [idxBy, hx, cond_false]; exact h1
        · rw [List.filter_cons, hx]; simp only [Bool.not_false, if_true]; rw [h2]
      · refine .inr ⟨n + 1, by simp; omega, ?_, ?_⟩
        · simp only [idxBy, hx, cond_false]; rw [h2]; congr 1; omega
        · rw [List.take_succ_cons, List.drop_succ_cons, List.filter_cons, hx]; simp only [Bool.not_false, if_true]; rw [← h3]; rfl
theorem eta_i (x : Item) : ((x.1, (x.2.1, (x.2.2.1, x.2.2.2))) : Item) = x := rfl

end Go.Ev.Y

set_option linter.unusedVariables false
set_option linter.unusedSimpArgs false
namespace Go.Ev.Y
open Go Go.Ev Go.Proofs
theorem eta_pr (p : Prgm) : ((p.1, (p.2.1, (p.2.2.1, (p.2.2.2.1, p.2.2.2.2)))) : Prgm) = p := rfl
theorem long_of (p : Prgm) (its : List Item) (h : its.length ≤ 1000) : t35_ok p its = true ∧ t35_0 p its = fitL p its := by
  unfold t35_ok t35_0 t35
  rw [dT h]; exact ⟨rfl, rfl⟩
theorem fit_tree {best pl : List Int} {longest most L : Int} (hb : best.length ≤ 1000) (hl : pl.length ≤ 1000) (A B : Option Fr) :
    cond (decide (L ≤ most)) (cond (decide ((wrap .i64 (((List.length pl : Nat) : Int) - ((List.length best : Nat) : Int))) > (0 : Int))) A (cond ((wrap .i64 (((List.length pl : Nat) : Int) - ((List.length best : Nat) : Int))) == (0 : Int)) (cond (decide (L > longest)) A (cond (L == longest) (cond (decide (List.length pl ≤ 1000)) (cond (decide ((cmpGo pl best) < (0 : Int))) A B) none) B)) B)) B = cond (fitB best longest most pl L) A B := by
  unfold fitB
  rw [wrap_in (by omega) (by omega), dT hl, cond_true]
  cases decide (L ≤ most) with
  | false => rfl
  | true =>
    by_cases h1 : best.length < pl.length
    · rw [dT (p := (pl.length : Int) - best.length > 0) (by omega), dT h1]; rfl
    · rw [dF (p := (pl.length : Int) - best.length > 0) (by omega), dF h1]
      by_cases h2 : pl.length = best.length
      · have : ((pl.length : Int) - best.length == 0) = true := by rw [beq_iff_eq]; omega
        rw [this, dT h2]
        cases decide (L > longest) <;> cases L == longest <;> cases decide (cmpGo pl best < 0) <;> rfl
      · have : ((pl.length : Int) - best.length == 0) = false := by rw [beq_eq_false_iff_ne]; omega
        rw [this, dF h2]; rfl
theorem fit_tree2 {best pl : List Int} {longest most L : Int} (hl : pl.length ≤ 1000) (A B : Option Fr) :
    cond (decide (L ≤ most)) (cond (decide (((List.length pl : Nat) : Int) > ((List.length best : Nat) : Int))) A (cond (((List.length pl : Nat) : Int) == ((List.length best : Nat) : Int)) (cond (decide (L > longest)) A (cond (L == longest) (cond (decide (List.length pl ≤ 1000)) (cond (decide ((cmpGo pl best) < (0 : Int))) A B) none) B)) B)) B = cond (fitB best longest most pl L) A B := by
  unfold fitB
  rw [dT hl, cond_true]
  cases decide (L ≤ most) with
  | false => rfl
  | true =>
    by_cases h1 : best.length < pl.length
    · rw [dT (p := (pl.length : Int) > best.length) (by omega), dT h1]; rfl
    · rw [dF (p := (pl.length : Int) > best.length) (by omega), dF h1]
      by_cases h2 : pl.length = best.length
      · have : ((pl.length : Int) == best.length) = true := by rw [beq_iff_eq]; omega
        rw [this, dT h2]
        cases decide (L > longest) <;> cases L == longest <;> cases decide (cmpGo pl best < 0) <;> rfl
      · have : ((pl.length : Int) == best.length) = false := by rw [beq_eq_false_iff_ne]; omega
        rw [this, dF h2]; rfl
theorem selP_in (set : Int) : ∀ (l : List Item) (i : Nat), ∀ x ∈ selP set l i, (i : Int) ≤ x ∧ x < ((i + l.length : Nat) : Int)
  | [], i, x, h => by cases h
  | y :: l, i, x, h => by
    have ih := selP_in set l (i + 1)
    simp only [selP] at h
    simp only [List.length_cons]
    cases hb : bitS set i with
    | true =>
      rw [hb] at h
      rcases List.mem_cons.1 h with rfl | h
      · omega
      · have := ih x h; omega
    | false => rw [hb] at h; have := ih x h; omega
theorem selP_len (set : Int) : ∀ (l : List Item) (i : Nat), (selP set l i).length ≤ l.length
  | [], i => Nat.le_refl _
  | y :: l, i => by
    have ih := selP_len set l (i + 1)
    simp only [selP, List.length_cons]
    cases bitS set i <;> simp <;> omega
theorem selI_len (set : Int) : ∀ (l : List Item) (i : Nat), (selI set l i).length ≤ l.length
  | [], i => Nat.le_refl _
  | y :: l, i => by
    have ih := selI_len set l (i + 1)
    simp only [selI, List.length_cons]
    cases bitS set i <;> simp <;> omega

theorem in16 (p : Prgm) (h5 : p.1.length ≤ 5) (most longest : Int) (set N : Nat) (best : List Int) (hb : best.length ≤ 5) : ∀ (m i : Nat) (its : List Item) (pl : List Int), i + m = p.1.length → its.length ≤ i → pl.length ≤ i →
    f16h2 most longest set N set p.1 p.1.length i p.1 p.2.1 p.2.2.1 p.2.2.2.1 p.2.2.2.2 best its pl =
      cond (fitB best longest most (pl ++ selP set (p.1.drop i) i) (fitL p (its ++ selI set (p.1.drop i) i)))
        (f16h0 most (fitL p (its ++ selI set (p.1.drop i) i)) N (wrap .i64 ((set : Int) + 1)) p.1 p.2.1 p.2.2.1 p.2.2.2.1 p.2.2.2.2 (pl ++ selP set (p.1.drop i) i))
        (f16h0 most longest N (wrap .i64 ((set : Int) + 1)) p.1 p.2.1 p.2.2.1 p.2.2.2.1 p.2.2.2.2 best)
  | 0, i, its, pl, hi, h1, h2 => by
    obtain ⟨q1, q2⟩ := long_of p its (by omega)
    rw [f16h2_eq, condF (dlt_not (by omega)), dnil (xs := p.1) (i := i) (by omega), eta_pr, condT q1, q2]
    simp only [selP, selI, List.append_nil]
    exact fit_tree (by omega) (by omega) _ _
  | m + 1, i, its, pl, hi, h1, h2 => by
    have hlt : i < p.1.length := by omega
    rw [f16h2_eq]
    rw [condT (dT (by first | omega | (simp only [List.length_append, List.length_cons, List.length_nil, List.length_set, List.length_take, List.length_drop, List.length_map]; omega) | (simp; omega)))]
    rw [condT (dT (by first | omega | (simp only [List.length_append, List.length_cons, List.length_nil, List.length_set, List.length_take, List.length_drop, List.length_map]; omega) | (simp; omega)))]
    rw [condT (dT (by first | omega | (simp only [List.length_append, List.length_cons, List.length_nil, List.length_set, List.length_take, List.length_drop, List.length_map]; omega) | (simp; omega)))]
    rw [condF (dF (by omega)), getN _ _ _ hlt, eta_i, wsucc (by omega), dcons hlt]
    simp only [selP, selI]
    show cond (bitS set i) _ _ = _
    cases bitS set i with
    | true =>
      rw [cond_true, cond_true, cond_true, condT (dT (by simp; omega)), condT (dT (by simp; omega)), in16 p h5 most longest set N best hb m (i + 1) _ _ (by omega) (by simp; omega) (by simp; omega), List.append_assoc, List.append_assoc]; rfl
    | false =>
      rw [cond_false, cond_false, cond_false, in16 p h5 most longest set N best hb m (i + 1) _ _ (by omega) (by omega) (by omega)]

theorem keys16 (p : Prgm) (h5 : p.1.length ≤ 5) (best : List Int) (hb : best.length ≤ 5) (hr : ∀ x ∈ best, 0 ≤ x ∧ x < (p.1.length : Int)) (a b c d : Int) : ∀ (m i : Nat) (out : List Bytes), i + m = best.length → out.length ≤ i →
    f16h4 best.length i p.1 a b c d out best = some ⟨[.dat (.slice .str) (out ++ (best.drop i).map (keyAt p.1)), .dat tI 0], []⟩
  | 0, i, out, hi, ho => by rw [f16h4_eq, condF (dlt_not (by omega)), dnil (xs := best) (i := i) (by omega)]; simp
  | m + 1, i, out, hi, ho => by
    have hlt : i < best.length := by omega
    have hx := hr _ (List.getElem_mem hlt)
    rw [f16h4_eq]
    rw [condT (dT (by first | omega | (simp only [List.length_append, List.length_cons, List.length_nil, List.length_set, List.length_take, List.length_drop, List.length_map]; omega) | (simp; omega)))]
    rw [condT (dT (by first | omega | (simp only [List.length_append, List.length_cons, List.length_nil, List.length_set, List.length_take, List.length_drop, List.length_map]; omega) | (simp; omega)))]
    rw [condT (dT (by first | omega | (simp only [List.length_append, List.length_cons, List.length_nil, List.length_set, List.length_take, List.length_drop, List.length_map]; omega) | (simp; omega)))]
    rw [condT (dT (by first | omega | (simp only [List.length_append, List.length_cons, List.length_nil, List.length_set, List.length_take, List.length_drop, List.length_map]; omega) | (simp; omega)))]
    rw [getN _ _ _ hlt, condT (dT hx.1), condT (dT hx.2), condT (dT (by simp; omega)), wsucc (by omega), keys16 p h5 best hb hr a b c d m (i + 1) _ (by omega) (by simp; omega), dcons hlt, List.map_cons, List.append_assoc]; rfl

theorem go16 (p : Prgm) (h5 : p.1.length ≤ 5) (most : Int) (N : Nat) (hN : N ≤ 32) : ∀ (m set : Nat) (best : List Int) (longest : Int), set + m = N → best.length ≤ 5 → (∀ x ∈ best, 0 ≤ x ∧ x < (p.1.length : Int)) →
    f16h0 most longest N set p.1 p.2.1 p.2.2.1 p.2.2.2.1 p.2.2.2.2 best = some ⟨[.dat (.slice .str) ((fitGo p most m set best longest).map (keyAt p.1)), .dat tI 0], []⟩
  | 0, set, best, longest, hs, hb, hr => by
    rw [f16h0_eq, condF (dlt_not (by omega))]
    exact keys16 p h5 best hb hr _ _ _ _ best.length 0 [] (Nat.zero_add _) (by simp)
  | m + 1, set, best, longest, hs, hb, hr => by
    have l1 := selP_len set p.1 0
    have l2 := selP_in set p.1 0
    rw [f16h0_eq, condT (dlt (by omega))]
    have := in16 p h5 most longest set N best hb p.1.length 0 [] [] (Nat.zero_add _) (by simp) (by simp)
    rw [show (0 : Int) = ((0 : Nat) : Int) from rfl, this]
    simp only [List.nil_append, List.drop_zero]
    rw [wsucc (by omega), fitGo]
    cases fitB best longest most (selP set p.1 0) (fitL p (selI set p.1 0)) with
    | true => exact go16 p h5 most N hN m (set + 1) _ _ (by omega) (by omega) (fun x hx => by have := l2 x hx; omega)
    | false => exact go16 p h5 most N hN m (set + 1) best longest (by omega) hb hr
theorem pow_small : ∀ n ∈ List.range 6, (wrap .i64 ((1 : Int) * 2 ^ (min (Int.toNat ((n : Nat) : Int)) (IntKind.bits .i64)))) = ((2 ^ n : Nat) : Int) ∧ 2 ^ n ≤ 32 := by decide +kernel
theorem r16 : R16 := by
  intro a0 a1 h
  simp only [decide_eq_true_eq] at h
  rw [f16_run, eta_pr]
  unfold fitF
  cases checkProg isKey a0 != 0 with
  | true => rfl
  | false =>
    rw [cond_false, condF (dF (by omega)), cond_false]
    cases outside a1 0 5184000000 with
    | true => rfl
    | false =>
      obtain ⟨e1, e2⟩ := pow_small a0.1.length (List.mem_range.2 (by omega))
      rw [cond_false, condF (dF (by omega)), e1]
      exact go16 a0 h a1 (2 ^ a0.1.length) e2 (2 ^ a0.1.length) 0 [] 0 (Nat.zero_add _) (by simp) (fun x hx => by cases hx)


theorem wrap_l (x y : Int) : wrap .i64 (wrap .i64 x + y) = wrap .i64 (x + y) := by
  simp only [wrap, IntKind.wrap_i64]
  omega
theorem wrap_r (x y : Int) : wrap .i64 (x + wrap .i64 y) = wrap .i64 (x + y) := by
  rw [Int.add_comm, wrap_l, Int.add_comm]

theorem tt_tim (p : Prgm) (fr : Int) : ∀ (l : List Item) (i a f : Int), f = wrap .i64 (fr + a) → ttGo fr (begGo p i a l).1 l = timGo p i f l
  | [], _, _, _, _ => rfl
  | [x], i, a, f, h => by subst h; rfl
  | x :: y :: l, i, a, f, h => by
    have ih := tt_tim p fr (y :: l) (i + 1) (wrap .i64 (wrap .i64 (a + x.2.2.1) + gapAt p i x y)) (wrap .i64 (wrap .i64 (f + x.2.2.1) + gapAt p i x y)) (by
      subst h
      simp only [wrap, IntKind.wrap_i64]
      omega)
    simp only [begGo, timGo, ttGo]
    rw [ih, h]

theorem long_last (p : Prgm) : ∀ (l : List Item) (x : Item) (i a : Int), ∃ t, (timGo p i a (x :: l)).getLast? = some t ∧ t.2.2 = (begGo p i a (x :: l)).2
  | [], x, i, a => ⟨_, rfl, rfl⟩
  | y :: l, x, i, a => by
    obtain ⟨t, h1, h2⟩ := long_last p l y (i + 1) (wrap .i64 (wrap .i64 (a + x.2.2.1) + gapAt p i x y))
    refine ⟨t, ?_, h2⟩
    simp only [timGo]
    rw [List.getLast?_cons, h1]; rfl

theorem long_eq (p : Prgm) : longR p = (begGo p 0 0 p.1).2 := by
  unfold longR
  cases p.1 with
  | nil => rfl
  | cons x l =>
    obtain ⟨t, h1, h2⟩ := long_last p l x 0 0
    rw [h1]; exact h2

theorem fromF_eq (p : Prgm) (f : Int) (h : checkProg keyR p = 0) : fromF p f = beginF p f := by
  unfold fromF beginF isMom
  rw [isKey_fun, h, long_eq, outside_in, Bool.not_not]
  rfl


theorem itemsGo_in : ∀ (l pre : List Item), itemsGo isKey pre l = 0 → ∀ x ∈ l, outside x.2.2.1 1 86400000 = false
  | [], _, _, x, hx => by cases hx
  | y :: l, pre, h, x, hx => by
    simp only [itemsGo] at h
    cases h1 : (!isKey y.1 || !isKey y.2.1) with
    | true => rw [h1, cond_true] at h; exact absurd h (by decide)
    | false =>
    rw [h1, cond_false] at h
    cases h2 : (pre.any fun o => o.1 == y.1) with
    | true => rw [h2, cond_true] at h; exact absurd h (by decide)
    | false =>
    rw [h2, cond_false] at h
    cases h3 : outside y.2.2.1 1 86400000 with
    | true => rw [h3, cond_true] at h; exact absurd h (by decide)
    | false =>
    rw [h3, cond_false] at h
    cases h4 : (partsF isKey y.2.2.2 != 0) with
    | true => rw [h4, cond_true] at h; rw [h] at h4; exact absurd h4 (by decide)
    | false =>
    rw [h4, cond_false] at h
    rcases List.mem_cons.1 hx with rfl | hx
    · exact h3
    · exact itemsGo_in l _ h x hx

theorem prog_in (p : Prgm) (h : checkProg isKey p = 0) : (∀ x ∈ p.1, outside x.2.2.1 1 86400000 = false) ∧ outside p.2.1 0 86400000 = false ∧ outside p.2.2.1 0 86400000 = false ∧ outside p.2.2.2.1 0 86400000 = false := by
  unfold checkProg at h
  cases h1 : (checkItems isKey p.1 != 0) with
  | true => rw [h1, cond_true] at h; rw [h] at h1; exact absurd h1 (by decide)
  | false =>
  rw [h1, cond_false] at h
  cases h2 : (outside p.2.1 0 86400000 || outside p.2.2.1 0 86400000 || outside p.2.2.2.1 0 86400000 || outside p.2.2.2.2 (-1) (mx (-1) (wrap .i64 ((p.1.length : Int) - 2)))) with
  | true => rw [h2, cond_true] at h; exact absurd h (by decide)
  | false =>
  simp only [Bool.or_eq_false_iff] at h2
  have h3 : checkItems isKey p.1 = 0 := by simpa using h1
  unfold checkItems at h3
  cases h4 : decide ((p.1.length : Int) > 60) with
  | true => rw [h4, cond_true] at h3; exact absurd h3 (by decide)
  | false =>
  rw [h4, cond_false] at h3
  exact ⟨itemsGo_in _ _ h3, h2.1.1.1, h2.1.1.2, h2.1.2⟩

theorem out_b {n lo hi : Int} (h : outside n lo hi = false) : lo ≤ n ∧ n ≤ hi := by
  unfold outside at h
  simp only [Bool.or_eq_false_iff, decide_eq_false_iff_not] at h
  omega

theorem gap_b (p : Prgm) (h : checkProg isKey p = 0) (i : Int) (x y : Item) : 0 ≤ gapAt p i x y ∧ gapAt p i x y ≤ 86400000 := by
  obtain ⟨_, h1, h2, h3⟩ := prog_in p h
  unfold gapAt
  cases (i == p.2.2.2.2)
  · cases (!(x.2.1 == y.2.1))
    · exact out_b h2
    · exact out_b h1
  · exact out_b h3

theorem beg_b (p : Prgm) (h : checkProg isKey p = 0) : ∀ (l : List Item) (i a : Int), (∀ x ∈ l, outside x.2.2.1 1 86400000 = false) → 0 ≤ a → a + l.length * 172800000 ≤ 1000000000000 → 0 ≤ (begGo p i a l).2 ∧ (begGo p i a l).2 ≤ a + l.length * 172800000
  | [], i, a, hx, h0, hb => ⟨h0, by simp [begGo]⟩
  | [x], i, a, hx, h0, hb => by
    have h1 := out_b (hx x List.mem_cons_self)
    simp only [begGo, List.length_singleton] at hb ⊢
    rw [wrap_in (by omega) (by omega)]
    omega
  | x :: y :: l, i, a, hx, h0, hb => by
    have h1 := out_b (hx x List.mem_cons_self)
    have h2 := gap_b p h i x y
    simp only [List.length_cons] at hb
    have hw : wrap .i64 (wrap .i64 (a + x.2.2.1) + gapAt p i x y) = a + x.2.2.1 + gapAt p i x y := by
      rw [wrap_in (x := a + x.2.2.1) (by omega) (by omega), wrap_in (by omega) (by omega)]
    have ih := beg_b p h (y :: l) (i + 1) (a + x.2.2.1 + gapAt p i x y) (fun z hz => hx z (List.mem_cons_of_mem _ hz)) (by omega) (by simp only [List.length_cons]; omega)
    simp only [begGo, hw]
    simp only [List.length_cons] at ih ⊢
    omega

theorem last_tt (p : Prgm) (fr : Int) : ∀ (l : List Item) (x : Item) (i a f : Int), f = wrap .i64 (fr + a) → ∃ t, (timGo p i f (x :: l)).getLast? = some t ∧ t.2.2 = wrap .i64 (fr + (begGo p i a (x :: l)).2)
  | [], x, i, a, f, h => ⟨_, rfl, by subst h; show wrap .i64 (wrap .i64 (fr + a) + x.2.2.1) = wrap .i64 (fr + wrap .i64 (a + x.2.2.1)); simp only [wrap, IntKind.wrap_i64]; omega⟩
  | y :: l, x, i, a, f, h => by
    obtain ⟨t, h1, h2⟩ := last_tt p fr l y (i + 1) (wrap .i64 (wrap .i64 (a + x.2.2.1) + gapAt p i x y)) (wrap .i64 (wrap .i64 (f + x.2.2.1) + gapAt p i x y)) (by
      subst h
      simp only [wrap, IntKind.wrap_i64]
      omega)
    refine ⟨t, ?_, h2⟩
    simp only [timGo]
    rw [List.getLast?_cons, h1]; rfl

theorem tim_len (p : Prgm) : ∀ (l : List Item) (i f : Int), (timGo p i f l).length = l.length
  | [], _, _ => rfl
  | [x], _, _ => rfl
  | x :: y :: l, i, f => by simp only [timGo, List.length_cons, tim_len p (y :: l)]

/-- What stands at a place of a time table. -/
theorem tim_at (p : Prgm) : ∀ (l : List Item) (i f : Int) (j : Nat) (t : Timed), (timGo p i f l)[j]? = some t → ∃ x, l[j]? = some x ∧ t.1 = x.1 ∧ t.2.2 = wrap .i64 (t.2.1 + x.2.2.1) ∧
    ∀ t2, (timGo p i f l)[j + 1]? = some t2 → ∃ y, l[j + 1]? = some y ∧ t2.2.1 = wrap .i64 (t.2.2 + gapAt p (i + j) x y)
  | [], i, f, j, t, h => by simp [timGo] at h
  | [x], i, f, j, t, h => by
    cases j with
    | zero =>
      simp only [timGo, List.getElem?_cons_zero, Option.some.injEq] at h
      subst h
      exact ⟨x, rfl, rfl, rfl, fun t2 h2 => by simp [timGo] at h2⟩
    | succ j => simp [timGo] at h
  | x :: y :: l, i, f, j, t, h => by
    cases j with
    | zero =>
      simp only [timGo, List.getElem?_cons_zero, Option.some.injEq] at h
      subst h
      refine ⟨x, rfl, rfl, rfl, fun t2 h2 => ⟨y, rfl, ?_⟩⟩
      have hh : (timGo p (i + 1) (wrap .i64 (wrap .i64 (f + x.2.2.1) + gapAt p i x y)) (y :: l))[0]? = some t2 := h2
      have : t2.2.1 = wrap .i64 (wrap .i64 (f + x.2.2.1) + gapAt p i x y) := by
        cases l with
        | nil => simp only [timGo, List.getElem?_cons_zero, Option.some.injEq] at hh; rw [← hh]
        | cons z l => simp only [timGo, List.getElem?_cons_zero, Option.some.injEq] at hh; rw [← hh]
      rw [this]; simp
    | succ j =>
      have hh : (timGo p (i + 1) (wrap .i64 (wrap .i64 (f + x.2.2.1) + gapAt p i x y)) (y :: l))[j]? = some t := h
      obtain ⟨z, h1, h2, h3, h4⟩ := tim_at p (y :: l) _ _ j t hh
      refine ⟨z, h1, h2, h3, fun t2 ht2 => ?_⟩
      obtain ⟨w, q1, q2⟩ := h4 t2 ht2
      refine ⟨w, q1, ?_⟩
      rw [q2, show i + 1 + (j : Int) = i + ((j + 1 : Nat) : Int) by omega]

theorem ch_step (half : Int) (xs : List Item) (i : Nat) (n : Int) (h : i + 1 < xs.length) :
    chGo half i (xs.drop i) n = chGo half ((i + 1 : Nat) : Int) (xs.drop (i + 1)) (cond ((i : Int) != half && !(xs[i].2.1 == xs[i + 1].2.1)) (wrap .i64 (n + 1)) n) := by
  rw [dcons (xs := xs) (i := i) (by omega), dcons (xs := xs) (i := i + 1) h]
  simp only [chGo]
  rfl

theorem wrap_back {F L : Int} (h1 : 0 ≤ L) (h2 : L ≤ 86400000) : wrap .i64 (wrap .i64 (F + L) - F) = L := by
  have h := IntKind.wrap_i64 (F + L)
  simp only [wrap, IntKind.wrap_i64]
  omega

theorem bne_f {a b : Int} (h : a = b) : (a != b) = false := by subst h; simp

/-- One round of the law after another. -/

theorem itemsGo_inv : ∀ (l pre : List Item), itemsGo isKey pre l = 0 → (pre.map fun x => x.1).Nodup → (∀ x ∈ l, itemOkB x = true) ∧ ((pre ++ l).map fun x => x.1).Nodup
  | [], pre, _, hn => ⟨fun x hx => (by cases hx), by simpa using hn⟩
  | y :: l, pre, h, hn => by
    simp only [itemsGo] at h
    cases h1 : (!isKey y.1 || !isKey y.2.1) with
    | true => rw [h1, cond_true] at h; exact absurd h (by decide)
    | false =>
    rw [h1, cond_false] at h
    cases h2 : (pre.any fun o => o.1 == y.1) with
    | true => rw [h2, cond_true] at h; exact absurd h (by decide)
    | false =>
    rw [h2, cond_false] at h
    cases h3 : outside y.2.2.1 1 86400000 with
    | true => rw [h3, cond_true] at h; exact absurd h (by decide)
    | false =>
    rw [h3, cond_false] at h
    cases h4 : (partsF isKey y.2.2.2 != 0) with
    | true => rw [h4, cond_true] at h; rw [h] at h4; exact absurd h4 (by decide)
    | false =>
    rw [h4, cond_false] at h
    simp only [Bool.or_eq_false_iff, Bool.not_eq_false'] at h1
    have hp0 : (partsF isKey y.2.2.2 == 0) = true := by simpa [bne] using h4
    have hn2 : ((pre ++ [y]).map fun x => x.1).Nodup := by
      rw [List.map_append, List.nodup_append]
      refine ⟨hn, by simp, fun a ha b hb => ?_⟩
      simp only [List.map_cons, List.map_nil, List.mem_singleton] at hb
      subst hb
      rintro rfl
      obtain ⟨o, ho, e⟩ := List.mem_map.1 ha
      have := List.any_eq_false.1 h2 o ho
      simp [e] at this
    obtain ⟨q1, q2⟩ := itemsGo_inv l (pre ++ [y]) h hn2
    refine ⟨fun x hx => ?_, by simpa using q2⟩
    rcases List.mem_cons.1 hx with rfl | hx
    · unfold itemOkB; rw [h1.1, h1.2, h3, hp0]; rfl
    · exact q1 x hx

theorem prog_items (p : Prgm) (h : checkProg isKey p = 0) : (∀ x ∈ p.1, itemOkB x = true) ∧ (p.1.map fun x => x.1).Nodup := by
  unfold checkProg at h
  cases h1 : (checkItems isKey p.1 != 0) with
  | true => rw [h1, cond_true] at h; rw [h] at h1; exact absurd h1 (by decide)
  | false =>
  have h3 : checkItems isKey p.1 = 0 := by simpa using h1
  unfold checkItems at h3
  cases h4 : decide ((p.1.length : Int) > 60) with
  | true => rw [h4, cond_true] at h3; exact absurd h3 (by decide)
  | false =>
  rw [h4, cond_false] at h3
  have := itemsGo_inv p.1 [] h3 (by simp)
  simpa using this

/-- A part of a right program is right. -/
theorem alone_ok (p : Prgm) (h : checkProg isKey p = 0) (hl : p.1.length ≤ 5) (its : List Item) (hs : its.Sublist p.1) : checkProg isKey (alone p its) = 0 := by
  obtain ⟨h1, h2⟩ := prog_items p h
  obtain ⟨_, h3, h4, h5⟩ := prog_in p h
  have hl2 := hs.length_le
  refine checkProg_ok (alone p its) (by show its.length ≤ 5; omega) (fun x hx => h1 x (hs.subset hx)) ((hs.map _).nodup h2) h3 h4 h5 ?_
  refine out_f (by show (-1 : Int) ≤ -1; omega) ?_
  show (-1 : Int) ≤ mx (-1) _
  unfold mx; split <;> omega

theorem long_alone (p : Prgm) (h : checkProg isKey p = 0) (hl : p.1.length ≤ 5) (its : List Item) (hs : its.Sublist p.1) : longP (its, (p.2.1, (p.2.2.1, (p.2.2.2.1, (-1 : Int))))) = (fitL p its, 0) := by
  have := alone_ok p h hl its hs
  unfold longP
  show cond (checkProg isKey (alone p its) != 0) _ _ = _
  rw [this]; rfl


end Go.Ev.Y

set_option linter.unusedVariables false
set_option linter.unusedSimpArgs false
namespace Go.Ev.Y
open Go Go.Ev Go.Proofs
theorem go45 (a : List Bytes) (x : Bytes) (ha : a.length ≤ 1000) : ∀ (m i : Nat), i + m = a.length → f45h0 a x a.length i = some ⟨[.dat tI (idxS x (a.drop i) i)], []⟩ := by
  intro m
  induction m with
  | zero => intro i hi; rw [f45h0_eq, condF (dlt_not (by omega)), dnil (xs := a) (i := i) (by omega)]; rfl
  | succ m ih =>
    intro i hi
    have hlt : i < a.length := by omega
    rw [f45h0_eq]
    rw [condT (dT (by first | omega | (simp only [List.length_append, List.length_cons, List.length_nil, List.length_set, List.length_take, List.length_drop, List.length_map]; omega) | (simp; omega)))]
    rw [condT (dT (by first | omega | (simp only [List.length_append, List.length_cons, List.length_nil, List.length_set, List.length_take, List.length_drop, List.length_map]; omega) | (simp; omega)))]
    rw [condT (dT (by first | omega | (simp only [List.length_append, List.length_cons, List.length_nil, List.length_set, List.length_take, List.length_drop, List.length_map]; omega) | (simp; omega)))]
    rw [getN _ _ _ hlt, dcons hlt, wsucc (by omega), ih (i + 1) (by omega)]
    simp only [idxS]
    cases x == a[i] <;> rfl
theorem r45 : R45 := by
  intro a0 a1 h
  rw [f45_run]
  exact go45 a0 a1 (by simpa using h) a0.length 0 (by omega)
theorem r21 : R21 := by
  intro a0 a1 h
  rw [f21_run, h]; rfl

theorem fk_t (x : Item) (ks : List Bytes) (h : ks.length ≤ 1000) : t20_ok x ks = true ∧ t20_0 x ks = !hasS ks x.1 := by
  unfold t20_ok t20_0 t20
  rw [dT h]; exact ⟨rfl, rfl⟩
theorem go44 (ks : List Bytes) (hk : ks.length ≤ 1000) (xs : List Item) (hb : xs.length ≤ 1000) : ∀ (m i : Nat), i + m = xs.length →
    f44h0 xs.length i xs ks = some ⟨[.dat tI (idxBy (fun o => t20_0 o ks) (xs.drop i) i)], [(0, .arr tItem xs), (1, .box [.dat (.slice .str) ks])]⟩ := by
  intro m
  induction m with
  | zero => intro i hi; rw [f44h0_eq, condF (dlt_not (by omega)), dnil (xs := xs) (i := i) (by omega)]; rfl
  | succ m ih =>
    intro i hi
    have hlt : i < xs.length := by omega
    rw [f44h0_eq]
    rw [condT (dT (by first | omega | (simp only [List.length_append, List.length_cons, List.length_nil, List.length_set, List.length_take, List.length_drop, List.length_map]; omega) | (simp; omega)))]
    rw [condT (dT (by first | omega | (simp only [List.length_append, List.length_cons, List.length_nil, List.length_set, List.length_take, List.length_drop, List.length_map]; omega) | (simp; omega)))]
    rw [condT (dT (by first | omega | (simp only [List.length_append, List.length_cons, List.length_nil, List.length_set, List.length_take, List.length_drop, List.length_map]; omega) | (simp; omega)))]
    rw [condT (dT (by first | omega | (simp only [List.length_append, List.length_cons, List.length_nil, List.length_set, List.length_take, List.length_drop, List.length_map]; omega) | (simp; omega)))]
    rw [getN _ _ _ hlt, wsucc (by omega), ih (i + 1) (by omega), dcons hlt, condT (fk_t xs[i] ks hk).1]
    simp only [idxBy]
    cases t20_0 xs[i] ks <;> rfl
theorem r44 : R44 := by
  intro a0 ks h
  simp only [Bool.and_eq_true, decide_eq_true_eq] at h
  rw [f44_run]
  exact go44 ks h.2 a0 h.1 a0.length 0 (by omega)
theorem go18 (ks : List Bytes) (hk : ks.length ≤ 1000) : ∀ (m i j : Nat) (s : List Item), j + m = s.length → i < j → s.length ≤ 1000 →
    f18h0 i j s ks = some ⟨[.slc 4], [(0, .dead), (1, .box [.dat (.slice .str) ks]), (4, .arr tItem (s.take i ++ (s.drop j).filter (fun o => !t20_0 o ks)))]⟩
  | 0, i, j, s, hm, hij, hl => by
    rw [f18h0_eq, condF (dlt_not (by omega)), dnil (xs := s) (i := j) (by omega)]
    repeat (rw [condT (dT (by first | omega | (simp only [List.length_append, List.length_cons, List.length_nil, List.length_set, List.length_take, List.length_drop, List.length_map]; omega) | (simp; omega)))])
    simp only [List.filter_nil, List.append_nil, Int.toNat_natCast, Int.toNat_zero, List.drop_zero]
    rw [List.take_left' (l₁ := s.take i) (by rw [List.length_take]; omega)]
  | m + 1, i, j, s, hm, hij, hl => by
    have hlt : j < s.length := by omega
    rw [f18h0_eq]
    rw [condT (dT (by first | omega | (simp only [List.length_append, List.length_cons, List.length_nil, List.length_set, List.length_take, List.length_drop, List.length_map]; omega) | (simp; omega)))]
    rw [condT (dT (by first | omega | (simp only [List.length_append, List.length_cons, List.length_nil, List.length_set, List.length_take, List.length_drop, List.length_map]; omega) | (simp; omega)))]
    rw [condT (dT (by first | omega | (simp only [List.length_append, List.length_cons, List.length_nil, List.length_set, List.length_take, List.length_drop, List.length_map]; omega) | (simp; omega)))]
    rw [condT (dT (by first | omega | (simp only [List.length_append, List.length_cons, List.length_nil, List.length_set, List.length_take, List.length_drop, List.length_map]; omega) | (simp; omega)))]
    rw [getN _ _ _ hlt, eta_i, wsucc (i := j) (by omega), dcons hlt, List.filter_cons, condT (fk_t s[j] ks hk).1]
    cases hp : t20_0 s[j] ks with
    | true =>
      simp only [Bool.not_true, cond_false]
      exact go18 ks hk m i (j + 1) s (by omega) (by omega) hl
    | false =>
      simp only [Bool.not_false, cond_true, if_true]
      repeat (rw [condT (dT (by first | omega | (simp only [List.length_append, List.length_cons, List.length_nil, List.length_set, List.length_take, List.length_drop, List.length_map]; omega) | (simp; omega)))])
      rw [wsucc (by omega), Int.toNat_natCast]
      have e1 : (s.set i s[j]).drop (j + 1) = s.drop (j + 1) := List.drop_set_of_lt (by omega)
      have e2 : (s.set i s[j]).take (i + 1) = s.take i ++ [s[j]] := by
        rw [List.take_add_one, List.take_set_of_le (Nat.le_refl i), List.getElem?_set_self (by omega)]; rfl
      rw [go18 ks hk m (i + 1) (j + 1) (s.set i s[j]) (by rw [List.length_set]; omega) (by omega) (by rw [List.length_set]; omega), e1, e2, List.append_assoc]; rfl
theorem r18 : R18 := by
  intro a0 ks h
  have h' := h
  simp only [Bool.and_eq_true, decide_eq_true_eq] at h
  rw [f18_run, condT h']
  rcases idxBy_split (fun o => t20_0 o ks) a0 0 with ⟨e1, e2⟩ | ⟨n, hn, e1, e2⟩
  · rw [e1, e2]; rfl
  · rw [e1, condF (by rw [beq_eq_false_iff_ne]; omega), wsucc (by omega), Nat.zero_add, ← e2]
    exact go18 ks h.2 (a0.length - (n + 1)) n (n + 1) a0 (by omega) (by omega) h.1

end Go.Ev.Y

set_option linter.unusedVariables false
set_option linter.unusedSimpArgs false
namespace Go.Ev.Y
open Go Go.Ev Go.Proofs
theorem bits_more : ∀ n ∈ List.range 6, ∀ set ∈ List.range (2 ^ n), ∀ i ∈ List.range n, bitS ((set : Nat) : Int) i = false → (set + 2 ^ i < 2 ^ n ∧ ∀ j ∈ List.range n, bitS ((set + 2 ^ i : Nat) : Int) j = (bitS ((set : Nat) : Int) j || j == i)) := by
  decide +kernel

theorem bits_none : ∀ i ∈ List.range 6, bitS 0 i = false := by decide +kernel

/-- The best set that was found: it fits, and no set that fits has more. -/
def FitInv (p : Prgm) (most : Int) (m : Nat) (best : List Int) : Prop := ∃ s : Nat, s < 2 ^ p.1.length ∧ best = selP s p.1 0 ∧ fitL p (selI s p.1 0) ≤ most ∧ ∀ t : Nat, t < m → fitL p (selI t p.1 0) ≤ most → (selP t p.1 0).length ≤ best.length

theorem fit_spec (p : Prgm) (most : Int) : ∀ (m set : Nat) (best : List Int) (longest : Int), set + m = 2 ^ p.1.length → FitInv p most set best → FitInv p most (2 ^ p.1.length) (fitGo p most m set best longest)
  | 0, set, best, longest, h, hi => by
    rw [show 2 ^ p.1.length = set by omega]; exact hi
  | m + 1, set, best, longest, h, hi => by
    obtain ⟨s, h1, h2, h3, h4⟩ := hi
    simp only [fitGo]
    cases hb : fitB best longest most (selP set p.1 0) (fitL p (selI set p.1 0)) with
    | true =>
      rw [cond_true]
      unfold fitB at hb
      simp only [Bool.and_eq_true, Bool.or_eq_true, decide_eq_true_eq] at hb
      obtain ⟨q1, q2⟩ := hb
      have hge : best.length ≤ (selP set p.1 0).length := by
        rcases q2 with q | q
        · omega
        · omega
      refine fit_spec p most m (set + 1) _ _ (by omega) ⟨set, by omega, rfl, q1, fun t ht hf => ?_⟩
      by_cases he : t = set
      · subst he; exact Nat.le_refl _
      · exact Nat.le_trans (h4 t (by omega) hf) hge
    | false =>
      rw [cond_false]
      refine fit_spec p most m (set + 1) _ _ (by omega) ⟨s, h1, h2, h3, fun t ht hf => ?_⟩
      by_cases he : t = set
      · subst he
        refine Nat.le_of_not_lt fun hlt => ?_
        unfold fitB at hb
        rw [dT hf, dT hlt] at hb
        exact absurd hb (by simp)
      · exact h4 t (by omega) hf

theorem selP_count (set : Int) : ∀ (l : List Item) (i : Nat), (selP set l i).length = (selI set l i).length
  | [], _ => rfl
  | x :: l, i => by
    simp only [selP, selI]
    cases bitS set i with
    | true => simp [selP_count set l (i + 1)]
    | false => exact selP_count set l (i + 1)

theorem selI_sub (set : Int) : ∀ (l : List Item) (i : Nat), (selI set l i).Sublist l
  | [], _ => List.Sublist.refl _
  | x :: l, i => by
    simp only [selI]
    cases bitS set i with
    | true => exact (selI_sub set l (i + 1)).cons_cons x
    | false => exact (selI_sub set l (i + 1)).cons x

/-- The items whose keys are told. -/
theorem selI_filter (set : Int) (ks : List Bytes) : ∀ (l : List Item) (i : Nat), (∀ (j : Nat) (hj : j < l.length), hasS ks l[j].1 = bitS set (i + j)) → l.filter (fun o => hasS ks o.1) = selI set l i
  | [], _, _ => rfl
  | x :: l, i, h => by
    have h0 : hasS ks x.1 = bitS set i := h 0 (by simp)
    have ih := selI_filter set ks l (i + 1) fun j hj => by
      have := h (j + 1) (by simpa using hj)
      rw [show i + 1 + j = i + (j + 1) by omega]; exact this
    simp only [selI]
    rw [List.filter_cons, h0, ih]
    cases bitS set i <;> rfl

theorem keys_sel (xs : List Item) (set : Int) : ∀ (l : List Item) (i : Nat), l = xs.drop i → (selP set l i).map (keyAt xs) = (selI set l i).map fun x => x.1
  | [], _, _ => rfl
  | x :: l, i, h => by
    have hi : i < xs.length := by
      refine Nat.lt_of_not_le fun hle => ?_
      rw [List.drop_eq_nil_of_le hle] at h; cases h
    rw [dcons hi] at h
    obtain ⟨rfl, hl⟩ := List.cons.inj h
    have ih := keys_sel xs set l (i + 1) hl
    simp only [selP, selI]
    cases bitS set i with
    | true =>
      simp only [cond_true, List.map_cons, ih]
      congr 1
      unfold keyAt
      rw [getN xs i (Tc.dflt tItem) hi]
    | false => exact ih

theorem idxS_mem (x : Bytes) : ∀ (l : List Bytes) (i : Nat), (x ∈ l → 0 ≤ idxS x l i) ∧ (x ∉ l → idxS x l i = -1)
  | [], i => ⟨fun h => (by cases h), fun _ => rfl⟩
  | y :: l, i => by
    unfold idxS
    by_cases h : x = y
    · subst h
      rw [show (x == x) = true from by simp, cond_true]
      exact ⟨fun _ => by omega, fun hn => absurd List.mem_cons_self hn⟩
    · rw [show (x == y) = false from by simpa using h, cond_false]
      obtain ⟨q1, q2⟩ := idxS_mem x l (i + 1)
      exact ⟨fun hm => q1 ((List.mem_cons.1 hm).resolve_left h), fun hn => q2 fun hm => hn (List.mem_cons_of_mem _ hm)⟩

theorem hasS_iff (l : List Bytes) (x : Bytes) : hasS l x = true ↔ x ∈ l := by
  unfold hasS
  obtain ⟨q1, q2⟩ := idxS_mem x l 0
  by_cases h : x ∈ l
  · have := q1 h
    simp [h]; omega
  · rw [q2 h]; simp [h]

/-- What is in a part of a list. -/
theorem sel_mem (set : Int) : ∀ (l : List Item) (i : Nat), (l.map fun x => x.1).Nodup → ∀ (j : Nat) (hj : j < l.length), l[j].1 ∈ (selI set l i).map (fun x => x.1) ↔ bitS set (i + j) = true
  | [], _, _, j, hj => by simp at hj
  | x :: l, i, hn, j, hj => by
    have hn' := List.nodup_cons.1 (by simpa using hn : (x.1 :: l.map fun x => x.1).Nodup)
    have hsub : ∀ k, k ∈ (selI set l (i + 1)).map (fun x => x.1) → k ∈ l.map fun x => x.1 := fun k hk => ((selI_sub set l (i + 1)).map _).subset hk
    simp only [selI]
    cases j with
    | zero =>
      show x.1 ∈ _ ↔ bitS set i = true
      cases hb : bitS set i with
      | true => simp
      | false =>
        rw [cond_false]
        refine ⟨fun hm => absurd (hsub _ hm) hn'.1, fun h => by cases h⟩
    | succ j =>
      have hj' : j < l.length := by simpa using hj
      have ih := sel_mem set l (i + 1) hn'.2 j hj'
      rw [show i + (j + 1) = i + 1 + j by omega]
      show l[j].1 ∈ _ ↔ _
      cases hb : bitS set i with
      | true =>
        rw [cond_true, List.map_cons, List.mem_cons]
        refine ⟨fun hm => ?_, fun h => .inr (ih.2 h)⟩
        rcases hm with hm | hm
        · exact absurd (hm ▸ List.mem_map_of_mem (List.getElem_mem hj')) hn'.1
        · exact ih.1 hm
      | false => exact ih

end Go.Ev.Y

set_option linter.unusedVariables false
set_option linter.unusedSimpArgs false
namespace Go.Ev.Y
open Go Go.Ev Go.Proofs
theorem count_more (s s' : Int) (i : Nat) (hb : bitS s i = false) : ∀ (l : List Item) (k : Nat), (∀ j, j < l.length → bitS s' (k + j) = (bitS s (k + j) || (k + j == i))) →
    (k ≤ i → i < k + l.length → (selI s' l k).length = (selI s l k).length + 1) ∧ (i < k → (selI s' l k).length = (selI s l k).length)
  | [], k, h => ⟨fun h1 h2 => (by simp at h2; omega), fun _ => rfl⟩
  | x :: l, k, h => by
    have h0 : bitS s' k = (bitS s k || (k == i)) := h 0 (by simp)
    obtain ⟨q1, q2⟩ := count_more s s' i hb l (k + 1) fun j hj => by
      have := h (j + 1) (by simpa using hj)
      rw [show k + 1 + j = k + (j + 1) by omega]; exact this
    simp only [selI]
    by_cases hk : k = i
    · subst hk
      rw [h0, hb, show (k == k) = true from by simp]
      refine ⟨fun _ _ => ?_, fun h => by omega⟩
      show (x :: selI s' l (k + 1)).length = _
      rw [List.length_cons, q2 (by omega)]; rfl
    · rw [h0, show (k == i) = false from by simpa using hk, Bool.or_false]
      cases bitS s k with
      | true =>
        simp only [cond_true, List.length_cons]
        refine ⟨fun h1 h2 => ?_, fun h1 => ?_⟩
        · rw [q1 (by omega) (by omega)]
        · rw [q2 (by omega)]
      | false =>
        simp only [cond_false]
        refine ⟨fun h1 h2 => ?_, fun h1 => ?_⟩
        · simp only [List.length_cons] at h2
          rw [q1 (by omega) (by omega)]
        · rw [q2 (by omega)]

theorem some_val (p : Prgm) (hp : checkProg isKey p = 0) (h5 : p.1.length ≤ 5) (ks : List Bytes) (hk : ks.length ≤ 1000) (t : Int) (hb : ∀ (j : Nat) (hj : j < p.1.length), hasS ks p.1[j].1 = bitS t j) (hl : ks.length = (selI t p.1 0).length) :
    t17_ok ks p.2.1 p.2.2.1 p.2.2.2.1 p.2.2.2.2 p.1 = true ∧ t17_0 ks p.2.1 p.2.2.1 p.2.2.2.1 p.2.2.2.2 p.1 = fitL p (selI t p.1 0) := by
  have hf : p.1.filter (fun o => !t20_0 o ks) = selI t p.1 0 := by
    rw [← selI_filter t ks p.1 0 fun j hj => by rw [Nat.zero_add]; exact hb j hj]
    congr 1
    funext o
    rw [(fk_t o ks hk).2, Bool.not_not]
  have hlong := long_alone p hp h5 (selI t p.1 0) (selI_sub t p.1 0)
  have e : t17 ks p.2.1 p.2.2.1 p.2.2.2.1 p.2.2.2.2 p.1 = some (fitL p (selI t p.1 0)) := by
    unfold t17
    rw [hf, hlong, dT (p := p.1.length ≤ 1000) (by omega), dT hk, hl, bne_f (a := (((selI t p.1 0).length : Nat) : Int)) rfl]
    rfl
  unfold t17_ok t17_0
  rw [e]
  exact ⟨rfl, rfl⟩

theorem selI_zero : ∀ (l : List Item) (i : Nat), i + l.length ≤ 6 → selI 0 l i = [] ∧ selP 0 l i = []
  | [], _, _ => ⟨rfl, rfl⟩
  | x :: l, i, h => by
    simp only [List.length_cons] at h
    obtain ⟨q1, q2⟩ := selI_zero l (i + 1) (by omega)
    have hb := bits_none i (List.mem_range.2 (by omega))
    simp only [selI, selP, hb, cond_false]
    exact ⟨q1, q2⟩

theorem loop5 (p : Prgm) (hp : checkProg isKey p = 0) (h5 : p.1.length ≤ 5) (most : Int) (s : Nat) (hs : s < 2 ^ p.1.length) (hmax : ∀ t : Nat, t < 2 ^ p.1.length → fitL p (selI t p.1 0) ≤ most → (selI t p.1 0).length ≤ (selI s p.1 0).length) : ∀ (m i : Nat), i + m = p.1.length →
    f5h0 most ((selI s p.1 0).map fun x => x.1) (p.1.length : Int) i p.2.1 p.2.2.1 p.2.2.2.1 p.2.2.2.2 p.1 = some ⟨[.dat .bool true], []⟩ := by
  have hnd := (prog_items p hp).2
  have hKl : ((selI s p.1 0).map fun x => x.1).length ≤ 5 := by
    rw [List.length_map]
    have := (selI_sub s p.1 0).length_le
    omega
  have hK : ∀ (j : Nat) (hj : j < p.1.length), hasS ((selI s p.1 0).map fun x => x.1) p.1[j].1 = bitS s j := by
    intro j hj
    have h1 := hasS_iff ((selI s p.1 0).map fun x => x.1) p.1[j].1
    have h2 := sel_mem s p.1 0 hnd j hj
    rw [Nat.zero_add] at h2
    exact Bool.eq_iff_iff.2 (h1.trans h2)
  intro m
  induction m with
  | zero =>
    intro i hi
    rw [f5h0_eq, dlt_not (i := i) (n := p.1.length) (by omega)]
    rfl
  | succ m ih =>
    intro i hi
    have hlt : i < p.1.length := by omega
    have hnext := ih (i + 1) (by omega)
    rw [f5h0_eq, dlt hlt, dle0, getN _ _ _ hlt, wsucc (by omega), dT (p := ((selI s p.1 0).map fun x => x.1).length ≤ 1000) (by omega), hK i hlt]
    simp only [cond_true]
    cases hb : bitS s i with
    | true => exact hnext
    | false =>
      simp only [Bool.not_false, cond_true]
      obtain ⟨r1, r2⟩ := bits_more p.1.length (List.mem_range.2 (by omega)) s (List.mem_range.2 hs) i (List.mem_range.2 hlt) hb
      have hbits : ∀ j, j < p.1.length → bitS ((s + 2 ^ i : Nat) : Int) j = (bitS (s : Int) j || (j == i)) := fun j hj => r2 j (List.mem_range.2 hj)
      have hcnt := (count_more (s : Int) ((s + 2 ^ i : Nat) : Int) i hb p.1 0 fun j hj => by rw [Nat.zero_add]; exact hbits j hj).1 (Nat.zero_le _) (by omega)
      have hK2 : ∀ (j : Nat) (hj : j < p.1.length), hasS (((selI s p.1 0).map fun x => x.1) ++ [p.1[i].1]) p.1[j].1 = bitS ((s + 2 ^ i : Nat) : Int) j := by
        intro j hj
        rw [hbits j hj]
        refine Bool.eq_iff_iff.2 ((hasS_iff _ _).trans ?_)
        rw [List.mem_append, List.mem_singleton, Bool.or_eq_true]
        have h1 := (hasS_iff ((selI s p.1 0).map fun x => x.1) p.1[j].1)
        rw [hK j hj] at h1
        refine or_congr h1.symm ⟨fun e => ?_, fun e => ?_⟩
        · have hpw := List.pairwise_iff_getElem.1 hnd
          by_cases hji : j = i
          · simp [hji]
          · rcases Nat.lt_or_gt_of_ne hji with h | h
            · have := hpw j i (by simpa using hj) (by simpa using hlt) h
              rw [List.getElem_map, List.getElem_map] at this
              exact absurd e this
            · have := hpw i j (by simpa using hlt) (by simpa using hj) h
              rw [List.getElem_map, List.getElem_map] at this
              exact absurd e.symm this
        · have : j = i := by simpa using e
          subst this; rfl
      obtain ⟨v1, v2⟩ := some_val p hp h5 (((selI s p.1 0).map fun x => x.1) ++ [p.1[i].1]) (by simp only [List.length_append, List.length_singleton]; omega) ((s + 2 ^ i : Nat) : Int) hK2 (by simp only [List.length_append, List.length_map, List.length_singleton]; omega)
      rw [v1, v2, cond_true]
      have hno : ¬ fitL p (selI ((s + 2 ^ i : Nat) : Int) p.1 0) ≤ most := fun hf => by
        have := hmax (s + 2 ^ i) r1 hf
        omega
      rw [dF hno, cond_false]
      refine (condT (dT (by simp only [List.length_singleton]; omega))).trans ?_
      exact hnext

theorem r5 : R5 := by
  intro a0 _
  rw [f5_run]
  obtain ⟨⟨h1, h2, h3, h4, h5⟩, _⟩ := rightP_spec a0 0 5 rfl
  generalize rightP a0 (0 : Int) (5 : Int) = RP at h1 h2 h3 h4 h5
  obtain ⟨at_, its, c1, c2, c3, c4⟩ := RP
  simp only at h1 h2 h3 h4 h5 ⊢
  obtain ⟨q1, q2⟩ := rangeS_in a0 at_ (lo := 0) (hi := 900) (by omega) (by omega) (by omega)
  generalize rangeS a0 at_ (0 : Int) (900 : Int) = most at q1 q2
  have hk : (atOk 1000 (0 : Int) && decide (0 ≤ (5 : Int)) && decide ((5 : Int) ≤ 5)) = true := rfl
  have hI0 : FitInv (its, (c1, (c2, (c3, c4)))) most 0 [] := by
    obtain ⟨z1, z2⟩ := selI_zero its 0 (by omega)
    refine ⟨0, Nat.two_pow_pos _, z2.symm, ?_, fun t ht => by omega⟩
    show fitL _ (selI 0 its 0) ≤ most
    rw [z1]
    exact q1
  obtain ⟨s, s1, s2, s3, s4⟩ := fit_spec (its, (c1, (c2, (c3, c4)))) most (2 ^ its.length) 0 [] 0 (Nat.zero_add _) hI0
  have hfit : fitF (its, (c1, (c2, (c3, c4)))) most = ((selI s its 0).map (fun x => x.1), 0) := by
    unfold fitF fitR
    rw [h5, out_f (by omega) (by omega), s2]
    show ((selP (s : Int) its 0).map (keyAt its), (0 : Int)) = _
    rw [keys_sel its s its 0 rfl]
  rw [hk, cond_true, atOk_t (by omega) (by omega), cond_true, dT (p := its.length ≤ 5) h3, cond_true, hfit]
  have hnd : (its.map fun x => x.1).Nodup := (prog_items (its, (c1, (c2, (c3, c4)))) h5).2
  have hKl : ((selI s its 0).map fun x => x.1).length ≤ 5 := by
    rw [List.length_map]
    have := (selI_sub s its 0).length_le
    omega
  obtain ⟨v1, v2⟩ := some_val (its, (c1, (c2, (c3, c4)))) h5 h3 ((selI s its 0).map fun x => x.1) (by omega) s (fun j hj => by
    have e1 := hasS_iff ((selI s its 0).map fun x => x.1) its[j].1
    have e2 := sel_mem s its 0 hnd j hj
    rw [Nat.zero_add] at e2
    exact Bool.eq_iff_iff.2 (e1.trans e2)) (List.length_map _)
  have hpos : 0 ≤ fitL (its, (c1, (c2, (c3, c4)))) (selI s its 0) := by
    have hal := alone_ok (its, (c1, (c2, (c3, c4)))) h5 h3 (selI s its 0) (selI_sub s its 0)
    have hsl := (selI_sub s its 0).length_le
    exact (beg_b (alone (its, (c1, (c2, (c3, c4)))) (selI s its 0)) hal (selI s its 0) 0 0 (prog_in _ hal).1 (by omega) (by omega)).1
  show cond ((0 : Int) != 0) _ (cond (t17_ok ((selI s its 0).map fun x => x.1) c1 c2 c3 c4 its) (cond (decide (t17_0 ((selI s its 0).map fun x => x.1) c1 c2 c3 c4 its < 0)) _ (cond (decide (t17_0 ((selI s its 0).map fun x => x.1) c1 c2 c3 c4 its > most)) _ _)) none) = _
  have v1' : t17_ok ((selI s its 0).map fun x => x.1) c1 c2 c3 c4 its = true := v1
  have v2' : t17_0 ((selI s its 0).map fun x => x.1) c1 c2 c3 c4 its = fitL (its, (c1, (c2, (c3, c4)))) (selI s its 0) := v2
  have s3' : fitL (its, (c1, (c2, (c3, c4)))) (selI s its 0) ≤ most := s3
  rw [v1', v2', dF (p := fitL (its, (c1, (c2, (c3, c4)))) (selI s its 0) < 0) (by omega), dF (p := fitL (its, (c1, (c2, (c3, c4)))) (selI s its 0) > most) (by omega)]
  refine loop5 (its, (c1, (c2, (c3, c4)))) h5 h3 most s s1 (fun t ht hf => ?_) its.length 0 (Nat.zero_add _)
  have := s4 t ht hf
  rw [s2, selP_count, selP_count] at this
  exact this

end Go.Ev.Y
