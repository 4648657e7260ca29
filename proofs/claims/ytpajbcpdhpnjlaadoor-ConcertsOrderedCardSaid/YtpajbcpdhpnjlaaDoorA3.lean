import Derived.Test.YtpajbcpdhpnjlaaDoorA2
import Derived.IntWalk
import Derived.Lib.Bytealg
import Derived.Lib.SlTrimSet
import Derived.Test.YtpajbcpdhpnjlaaDoorProg
set_option linter.unusedSimpArgs false
set_option linter.unusedVariables false
namespace Go.Ev
open Go

/-! ### the same runs over trees of slots (only for speed) -/
inductive Tr where
  | leaf
  | node (l : Tr) (v : FV) (r : Tr)

def oddN (i : Nat) : Bool := Nat.beq (Nat.mod i 2) 1
def halfN (i : Nat) : Nat := Nat.div (Nat.sub i 1) 2

def Tr.get : Tr → Nat → FV
  | .leaf, _ => .undef
  | .node l v r, i => cond (Nat.beq i 0) v (cond (oddN i) (l.get (halfN i)) (r.get (halfN i)))

def Tr.setK {ρ : Type} : Nat → Tr → Nat → FV → (Tr → ρ) → ρ
  | 0, t, _, _, k => k t
  | f + 1, t, i, v, k => match t with
    | .leaf => cond (Nat.beq i 0) (k (.node .leaf v .leaf)) (cond (oddN i) (Tr.setK f .leaf (halfN i) v fun l => k (.node l .undef .leaf)) (Tr.setK f .leaf (halfN i) v fun r => k (.node .leaf .undef r)))
    | .node l x r => cond (Nat.beq i 0) (k (.node l v r)) (cond (oddN i) (Tr.setK f l (halfN i) v fun l => k (.node l x r)) (Tr.setK f r (halfN i) v fun r => k (.node l x r)))

def Tr.set : Nat → Tr → Nat → FV → Tr
  | 0, t, _, _ => t
  | f + 1, t, i, v => match t with
    | .leaf => cond (Nat.beq i 0) (.node .leaf v .leaf) (cond (oddN i) (.node (Tr.set f .leaf (halfN i) v) .undef .leaf) (.node .leaf .undef (Tr.set f .leaf (halfN i) v)))
    | .node l x r => cond (Nat.beq i 0) (.node l v r) (cond (oddN i) (.node (Tr.set f l (halfN i) v) x r) (.node l x (Tr.set f r (halfN i) v)))

theorem Tr.setK_eq {ρ : Type} : ∀ (f : Nat) (t : Tr) (i : Nat) (v : FV) (k : Tr → ρ), Tr.setK f t i v k = k (Tr.set f t i v)
  | 0, t, i, v, k => rfl
  | f + 1, .leaf, i, v, k => by
    simp only [Tr.setK, Tr.set, Tr.setK_eq f]
    cases Nat.beq i 0 <;> cases oddN i <;> rfl
  | f + 1, .node l x r, i, v, k => by
    simp only [Tr.setK, Tr.set, Tr.setK_eq f]
    cases Nat.beq i 0 <;> cases oddN i <;> rfl

theorem half_lt {i f : Nat} (h : i < f + 1) (h0 : i ≠ 0) : halfN i < f := by
  show (i - 1) / 2 < f; omega
theorem oddN_eq (i : Nat) : oddN i = decide (i % 2 = 1) := by
  unfold oddN
  show Nat.beq (i % 2) 1 = _
  by_cases h : i % 2 = 1
  · simp [h]
  · rw [beq_no h]; simp [h]
theorem half_ne {i j : Nat} (hi : i ≠ 0) (hj : j ≠ 0) (h : i ≠ j) (hp : oddN i = oddN j) : halfN j ≠ halfN i := by
  rw [oddN_eq, oddN_eq] at hp
  have hp' : (i % 2 = 1) ↔ (j % 2 = 1) := by simpa using hp
  show ¬ ((j - 1) / 2 = (i - 1) / 2)
  omega

theorem Tr.get_set : ∀ (f : Nat) (t : Tr) (i j : Nat) (v : FV), i < f → (Tr.set f t i v).get j = if j = i then v else t.get j
  | 0, t, i, j, v, h => by omega
  | f + 1, t, i, j, v, h => by
    have e0 : ∀ n : Nat, n ≠ 0 → Nat.beq n 0 = false := fun n hn => beq_no hn
    have hl : ∀ n, (Tr.leaf).get n = .undef := fun n => rfl
    by_cases hi : i = 0
    · subst hi
      by_cases hj : j = 0
      · subst hj; cases t <;> rfl
      · rw [if_neg hj]
        cases t with
        | leaf => rw [show Tr.set (f + 1) Tr.leaf 0 v = .node .leaf v .leaf from rfl]; simp only [Tr.get, e0 j hj, cond_false]; cases oddN j <;> rfl
        | node l x r => rw [show Tr.set (f + 1) (.node l x r) 0 v = .node l v r from rfl]; simp only [Tr.get, e0 j hj, cond_false]
    · have hlt := half_lt h hi
      by_cases hj : j = 0
      · subst hj
        rw [if_neg (by omega)]
        cases t with
        | leaf => simp only [Tr.set, e0 i hi, cond_false]; cases oddN i <;> rfl
        | node l x r => simp only [Tr.set, e0 i hi, cond_false]; cases oddN i <;> rfl
      · by_cases hij : j = i
        · subst hij
          rw [if_pos rfl]
          cases t with
          | leaf => simp only [Tr.set, e0 j hj, cond_false]; cases ho : oddN j <;> simp [Tr.get, e0 j hj, ho, Tr.get_set f _ _ _ _ hlt]
          | node l x r => simp only [Tr.set, e0 j hj, cond_false]; cases ho : oddN j <;> simp [Tr.get, e0 j hj, ho, Tr.get_set f _ _ _ _ hlt]
        · rw [if_neg hij]
          by_cases hp : oddN i = oddN j
          · have hne := half_ne hi hj (fun e => hij e.symm) hp
            cases t with
            | leaf => simp only [Tr.set, e0 i hi, cond_false, hp]; cases ho : oddN j <;> simp [Tr.get, e0 j hj, ho, Tr.get_set f _ _ _ _ hlt, hne]
            | node l x r => simp only [Tr.set, e0 i hi, cond_false, hp]; cases ho : oddN j <;> simp [Tr.get, e0 j hj, ho, Tr.get_set f _ _ _ _ hlt, hne]
          · cases t with
            | leaf => cases hoi : oddN i <;> cases hoj : oddN j <;> first | exact absurd (hoi.trans hoj.symm) hp | simp [Tr.set, Tr.get, e0 j hj, e0 i hi, hoi, hoj]
            | node l x r => cases hoi : oddN i <;> cases hoj : oddN j <;> first | exact absurd (hoi.trans hoj.symm) hp | simp [Tr.set, Tr.get, e0 j hj, e0 i hi, hoi, hoj]

structure Fq where
  n : Nat
  t : Tr
  regs : List (Nat × Reg)

def Fq.slot (q : Fq) (i : Nat) : FV := cond (Nat.blt i q.n) (q.t.get i) .undef
def Fq.reg (q : Fq) (k : Nat) : Reg := regAt q.regs k
def Fq.setSK (q : Fq) (i : Nat) (v : FV) {ρ : Type} (k : Fq → ρ) : ρ := match q with
  | ⟨n, t, r⟩ => Tr.setK (Nat.succ i) t i v fun t => k ⟨n, t, r⟩
def regPutK {ρ : Type} : List (Nat × Reg) → Nat → Reg → (List (Nat × Reg) → ρ) → ρ
  | [], k, r, K => K [(k, r)]
  | (i, x) :: l, k, r, K => cond (Nat.beq i k) (K ((i, r) :: l)) (cond (Nat.blt k i) (K ((k, r) :: (i, x) :: l)) (regPutK l k r fun l' => K ((i, x) :: l')))
def Fq.setRK (q : Fq) (i : Nat) (v : Reg) {ρ : Type} (k : Fq → ρ) : ρ := match q with
  | ⟨n, t, r⟩ => regPutK r i v fun r => k ⟨n, t, r⟩
def Fq.to (q : Fq) : Fr := ⟨(List.range q.n).map q.t.get, q.regs⟩

theorem regPutK_eq {ρ : Type} : ∀ (l : List (Nat × Reg)) (k : Nat) (r : Reg) (K : List (Nat × Reg) → ρ), regPutK l k r K = K (regPut l k r)
  | [], k, r, K => rfl
  | (i, x) :: l, k, r, K => by
    simp only [regPutK, regPut, regPutK_eq l]
    cases Nat.beq i k <;> cases Nat.blt k i <;> rfl

theorem blt_eq (i n : Nat) : Nat.blt i n = decide (i < n) := by
  by_cases h : i < n
  · rw [show Nat.blt i n = true from Nat.ble_eq_true_of_le h]; simp [h]
  · have : Nat.blt i n = false := by
      cases hb : Nat.blt i n with
      | false => rfl
      | true => exact absurd (Nat.le_of_ble_eq_true hb) h
    simp [this, h]

theorem Fq.slot_eq (q : Fq) (i : Nat) : q.to.slot i = q.slot i := by
  unfold Fq.to Fr.slot Fq.slot
  simp only [List.getD_eq_getElem?_getD, List.getElem?_map, List.getElem?_range', blt_eq]
  by_cases h : i < q.n
  · simp [h]
  · simp [h, List.getElem?_eq_none]

theorem Fq.setSK_eq (q : Fq) (i : Nat) (v : FV) {ρ : Type} (k : Fq → ρ) : ∃ q' : Fq, q.setSK i v k = k q' ∧ q'.to = q.to.setS i v ∧ q'.n = q.n := by
  obtain ⟨n, t, r⟩ := q
  refine ⟨⟨n, Tr.set (Nat.succ i) t i v, r⟩, by simp only [Fq.setSK, Tr.setK_eq], ?_, rfl⟩
  unfold Fq.to Fr.setS
  simp only
  congr 1
  apply List.ext_getElem?
  intro j
  rw [List.getElem?_set]
  simp only [List.getElem?_map, List.length_map, List.length_range]
  by_cases hj : j < n
  · rw [List.getElem?_range hj]
    simp only [Option.map_some, Tr.get_set _ _ _ _ _ (Nat.lt_succ_self i)]
    by_cases hij : i = j
    · subst hij; simp [hj]
    · simp [hij]; intro e; exact absurd e.symm hij
  · rw [List.getElem?_eq_none (by simpa using hj)]
    by_cases hij : i = j
    · subst hij; simp [hj]
    · simp [hij]

theorem Fq.setRK_eq (q : Fq) (i : Nat) (v : Reg) {ρ : Type} (k : Fq → ρ) : ∃ q' : Fq, q.setRK i v k = k q' ∧ q'.to = q.to.setR i v := by
  obtain ⟨n, t, r⟩ := q
  exact ⟨⟨n, t, regPut r i v⟩, by simp only [Fq.setRK, regPutK_eq], rfl⟩

def Pr.execQ {α ρ : Type} : Pr α → Fq → (α → Fq → Option ρ) → Option ρ
  | .ret a, q, K => K a q
  | .fail, _, _ => none
  | .getS i k, q, K => (k (q.slot i)).execQ q K
  | .getR i k, q, K => (k (q.reg i)).execQ q K
  | .setS i v k, q, K => fcV v fun v => q.setSK i v fun q => k.execQ q K
  | .setR i r k, q, K => fcR r fun r => q.setRK i r fun q => k.execQ q K
  | .ite b p p', q, K => cond b (p.execQ q K) (p'.execQ q K)
  | .opt o k, q, K => o.bind fun v => (k v).execQ q K

theorem execQ_eq {α ρ : Type} : ∀ (p : Pr α) (q : Fq) (K : α → Fq → Option ρ) (K' : α → Fr → Option ρ), (∀ a q, K a q = K' a q.to) → p.execQ q K = p.exec q.to K'
  | .ret a, q, K, K', h => h _ _
  | .fail, _, _, _, _ => rfl
  | .getS i k, q, K, K', h => by simp only [Pr.execQ, Pr.exec, Fq.slot_eq]; exact execQ_eq (k _) _ _ _ h
  | .getR i k, q, K, K', h => execQ_eq (k _) _ _ _ h
  | .setS i v k, q, K, K', h => by
    simp only [Pr.execQ, Pr.exec, fcV_eq]
    obtain ⟨q', h1, h2, _⟩ := Fq.setSK_eq q i v (fun q => k.execQ q K)
    rw [h1, ← h2]; exact execQ_eq k _ _ _ h
  | .setR i r k, q, K, K', h => by
    simp only [Pr.execQ, Pr.exec, fcR_eq]
    obtain ⟨q', h1, h2⟩ := Fq.setRK_eq q i r (fun q => k.execQ q K)
    rw [h1, ← h2]; exact execQ_eq k _ _ _ h
  | .ite b p p', q, K, K', h => by simp only [Pr.execQ, Pr.exec]; rw [execQ_eq p _ _ _ h, execQ_eq p' _ _ _ h]
  | .opt o k, q, K, K', h => by
    cases o with
    | none => rfl
    | some v => exact execQ_eq (k v) _ _ _ h

def Pr.execTQ {α ρ : Type} : Pr α → Fq → List Nat → List Nat → (α → Fq → List Nat → List Nat → Option ρ) → Option ρ
  | .ret a, q, r, w, K => K a q r w
  | .fail, _, _, _, _ => none
  | .getS i k, q, r, w, K => (k (q.slot i)).execTQ q (2 * i :: r) w K
  | .getR i k, q, r, w, K => (k (q.reg i)).execTQ q ((2 * i + 1) :: r) w K
  | .setS i v k, q, r, w, K => fcV v fun v => q.setSK i v fun q => k.execTQ q r (2 * i :: w) K
  | .setR i x k, q, r, w, K => fcR x fun x => q.setRK i x fun q => k.execTQ q r ((2 * i + 1) :: w) K
  | .ite b p p', q, r, w, K => cond b (p.execTQ q r w K) (p'.execTQ q r w K)
  | .opt o k, q, r, w, K => match o with
    | some v => (k v).execTQ q r w K
    | none => none

theorem execTQ_eq {α ρ : Type} : ∀ (p : Pr α) (q : Fq) (r w : List Nat) (K : α → Fq → List Nat → List Nat → Option ρ) (K' : α → Fr → List Nat → List Nat → Option ρ),
    (∀ a q r w, K a q r w = K' a q.to r w) → p.execTQ q r w K = p.execT q.to r w K'
  | .ret a, q, r, w, K, K', h => h _ _ _ _
  | .fail, _, _, _, _, _, _ => rfl
  | .getS i k, q, r, w, K, K', h => by simp only [Pr.execTQ, Pr.execT, Fq.slot_eq]; exact execTQ_eq (k _) _ _ _ _ _ h
  | .getR i k, q, r, w, K, K', h => execTQ_eq (k _) _ _ _ _ _ h
  | .setS i v k, q, r, w, K, K', h => by
    simp only [Pr.execTQ, Pr.execT, fcV_eq]
    obtain ⟨q', h1, h2, _⟩ := Fq.setSK_eq q i v (fun q => k.execTQ q r (2 * i :: w) K)
    rw [h1, ← h2]; exact execTQ_eq k _ _ _ _ _ h
  | .setR i x k, q, r, w, K, K', h => by
    simp only [Pr.execTQ, Pr.execT, fcR_eq]
    obtain ⟨q', h1, h2⟩ := Fq.setRK_eq q i x (fun q => k.execTQ q r ((2 * i + 1) :: w) K)
    rw [h1, ← h2]; exact execTQ_eq k _ _ _ _ _ h
  | .ite b p p', q, r, w, K, K', h => by simp only [Pr.execTQ, Pr.execT]; rw [execTQ_eq p _ _ _ _ _ h, execTQ_eq p' _ _ _ _ _ h]
  | .opt o k, q, r, w, K, K', h => by
    cases o with
    | none => rfl
    | some v => exact execTQ_eq (k v) _ _ _ _ _ h

def runOpsQ (E : Env) (C : Cfg) (ops : List Oper) {ρ : Type} : List Oper → Fq → (Fq → Option ρ) → Option ρ
  | [], q, K => K q
  | o :: rest, q, K => (gop E C ops o).execQ q fun _ q' => runOpsQ E C ops rest q' K

def runOpsTQ (E : Env) (C : Cfg) (ops : List Oper) {ρ : Type} : List Oper → List (List Nat × List Nat) → Fq → (Fq → Option ρ) → Option ρ
  | [], ft, q, K => cond (indepF ops ft) (cond (edgesBack 0 ops) (K q) none) none
  | o :: rest, ft, q, K => (gop E C ops o).execTQ q [] [] fun _ q' r w => runOpsTQ E C ops rest (ft ++ [(r, cond o.guard.isSome w.dropLast w)]) q' K

theorem runOpsQ_eq {E : Env} {C : Cfg} {ops : List Oper} {ρ : Type} : ∀ (l : List Oper) (q : Fq) (K : Fq → Option ρ) (K' : Fr → Option ρ), (∀ q, K q = K' q.to) → runOpsQ E C ops l q K = runOpsF E C ops l q.to K'
  | [], q, K, K', h => h q
  | o :: l, q, K, K', h => by
    simp only [runOpsQ, runOpsF]
    exact execQ_eq _ _ _ _ fun _ q' => by rw [fcF_eq]; exact runOpsQ_eq l q' K K' h

theorem runOpsTQ_eq {E : Env} {C : Cfg} {ops : List Oper} {ρ : Type} : ∀ (l : List Oper) (ft : List (List Nat × List Nat)) (q : Fq) (K : Fq → Option ρ) (K' : Fr → Option ρ), (∀ q, K q = K' q.to) → runOpsTQ E C ops l ft q K = runOpsTF E C ops l ft q.to K'
  | [], ft, q, K, K', h => by simp only [runOpsTQ, runOpsTF, h]
  | o :: l, ft, q, K, K', h => by
    simp only [runOpsTQ, runOpsTF]
    exact execTQ_eq _ _ _ _ _ _ fun _ q' r w => by rw [fcF_eq]; exact runOpsTQ_eq l _ q' K K' h

/-! ### heads of loops -/
def pickQ : List Nat → Fq → List (Nat × FV)
  | [], _ => []
  | k :: ks, q => match q.slot k with
    | .undef => pickQ ks q
    | v => (k, v) :: pickQ ks q

def ownQ : List (Nat × Tc) → Nat → Fq → (Fq → Option Fr) → Option Fr
  | [], _, q, K => K q
  | (i, t) :: l, j, q, K => match q.slot i with
    | .nil0 => match q.reg (900 + j) with
      | .abs => q.setRK (900 + j) (.arr t []) fun q => q.setSK i (.slc (900 + j)) fun q => ownQ l (j + 1) q K
      | _ => none
    | _ => ownQ l (j + 1) q K

def nrmHQ (C : Cfg) (pre b : Nat) (q : Fq) (K : Fr → Option Fr) : Option Fr :=
  cond (sortedB 0 (loopCfg C.loops b).1) (ownQ (loopCfg C.loops b).2 0 q fun q1 =>
    (collectF q1.regs 200 (List.range pre ++ idP (pickQ (loopCfg C.loops b).1 q1)) []).bind fun ids =>
      K (mkF q1.n (rnP (newNo 500 pre ids) (pickQ (loopCfg C.loops b).1 q1)) ((numbered 0 (ids.map fun k => (q1.reg k).ren (newNo 500 pre ids))).map fun p => (cond (Nat.blt p.1 pre) p.1 (500 + p.1), p.2)))) ((nrmB C pre b q.to).bind K)

theorem fm_congr {α β : Type} {f g : α → Option β} : ∀ {l : List α}, (∀ x ∈ l, f x = g x) → l.filterMap f = l.filterMap g
  | [], _ => rfl
  | x :: l, h => by
    simp only [List.filterMap_cons]
    rw [h x (by simp), fm_congr fun y hy => h y (by simp [hy])]

theorem pick_fm : ∀ (l : List FV) (ks : List Nat) (i : Nat), sortedB i ks = true → pickS ks i l = ks.filterMap fun k => match l[k - i]? with
    | some .undef => none
    | some v => some (k, v)
    | none => none
  | l, [], i, h => by cases l <;> rfl
  | [], k :: ks, i, h => by
    simp only [pickS]
    symm
    rw [List.filterMap_eq_nil_iff]
    intro a _; rfl
  | v :: l, k :: ks, i, h => by
    have hh := h
    simp only [sortedB] at h
    cases hble : Nat.ble i k with
    | false => rw [hble] at h; cases h
    | true =>
      rw [hble] at h
      simp only [cond_true] at h
      have hk := Nat.le_of_ble_eq_true hble
      simp only [pickS]
      have hrest : ∀ (ks' : List Nat), sortedB (i + 1) ks' = true → (∀ k' ∈ ks', i + 1 ≤ k') → pickS ks' (i + 1) l = ks'.filterMap fun k => match (v :: l)[k - i]? with
          | some .undef => none
          | some v => some (k, v)
          | none => none := by
        intro ks' hs hge
        rw [pick_fm l ks' (i + 1) hs]
        refine fm_congr fun k' hk' => ?_
        have := hge k' hk'
        rw [show k' - i = (k' - (i + 1)) + 1 by omega]; rfl
      have hge : ∀ (ks' : List Nat) (j : Nat), sortedB j ks' = true → ∀ k' ∈ ks', j ≤ k' := by
        intro ks'
        induction ks' with
        | nil => intro j _ k' hk'; cases hk'
        | cons a ks' ih =>
          intro j hs k' hk'
          simp only [sortedB] at hs
          cases hb : Nat.ble j a with
          | false => rw [hb] at hs; cases hs
          | true =>
            rw [hb] at hs
            have := Nat.le_of_ble_eq_true hb
            rcases List.mem_cons.1 hk' with rfl | hk'
            · exact this
            · have := ih (a + 1) hs k' hk'; omega
      cases hb : Nat.beq k i with
      | true =>
        have := Nat.eq_of_beq_eq_true hb
        subst this
        simp only [cond_true, List.filterMap_cons, Nat.sub_self, List.getElem?_cons_zero]
        rw [hrest ks h (hge ks _ h)]
        cases v <;> rfl
      | false =>
        have hne : k ≠ i := fun e => by subst e; simp at hb
        have hs : sortedB (i + 1) (k :: ks) = true := by
          simp only [sortedB]
          have : Nat.ble (i + 1) k = true := Nat.ble_eq_true_of_le (by omega)
          rw [this]; exact h
        simp only [cond_false]
        exact hrest (k :: ks) hs (hge _ _ hs)

theorem pickQ_fm (q : Fq) : ∀ ks : List Nat, pickQ ks q = ks.filterMap fun k => match q.slot k with
    | .undef => none
    | v => some (k, v)
  | [] => rfl
  | k :: ks => by
    simp only [pickQ, List.filterMap_cons]
    rw [pickQ_fm q ks]
    cases q.slot k <;> rfl

theorem pickQ_eq (q : Fq) (ks : List Nat) (h : sortedB 0 ks = true) : pickS ks 0 q.to.slots = pickQ ks q := by
  rw [pick_fm _ _ _ h, pickQ_fm]
  refine fm_congr fun k _ => ?_
  rw [← Fq.slot_eq]
  unfold Fr.slot
  rw [Nat.sub_zero, List.getD_eq_getElem?_getD]
  cases hg : q.to.slots[k]? with
  | none => rfl
  | some v => cases v <;> rfl

theorem ownQ_eq : ∀ (l : List (Nat × Tc)) (j : Nat) (q : Fq) (K : Fq → Option Fr) (K' : Fr → Option Fr), (∀ q, K q = K' q.to) → ownQ l j q K = (ownS l j q.to).bind K'
  | [], j, q, K, K', h => h q
  | (i, t) :: l, j, q, K, K', h => by
    simp only [ownQ, ownS, Fq.slot_eq]
    have hr : q.to.reg (900 + j) = q.reg (900 + j) := rfl
    rw [hr]
    cases q.slot i <;> try exact ownQ_eq l (j + 1) q K K' h
    cases hq : q.reg (900 + j) <;> try rfl
    obtain ⟨q1, h1, h2⟩ := Fq.setRK_eq q (900 + j) (.arr t []) (fun q => q.setSK i (.slc (900 + j)) fun q => ownQ l (j + 1) q K)
    obtain ⟨q2, h3, h4, _⟩ := Fq.setSK_eq q1 i (.slc (900 + j)) (fun q => ownQ l (j + 1) q K)
    simp only
    rw [h1, h3, ← h2, ← h4]
    exact ownQ_eq l (j + 1) q2 K K' h

theorem nrmHQ_eq (C : Cfg) (pre b : Nat) (q : Fq) (K : Fr → Option Fr) : nrmHQ C pre b q K = nrmH C pre b q.to K := by
  unfold nrmHQ nrmH
  cases h : sortedB 0 (loopCfg C.loops b).1 with
  | false => rfl
  | true =>
    simp only [cond_true]
    unfold normF
    rw [Option.bind_assoc]
    refine ownQ_eq _ _ _ _ _ fun q1 => ?_
    rw [pickQ_eq q1 _ h]
    have hn : q1.to.slots.length = q1.n := by simp [Fq.to]
    rw [hn]
    have hr : q1.to.regs = q1.regs := rfl
    rw [hr]
    cases collectF q1.regs 200 (List.range pre ++ idP (pickQ (loopCfg C.loops b).1 q1)) [] <;> rfl

/-! ### code -/
def preQ {ρ : Type} : List Nat → Nat → Fq → (Fq → ρ) → ρ
  | [], _, q, K => K q
  | n :: l, id, q, K => cond (Nat.beq (n / 1000) (300 + id)) (match q.slot (n % 1000) with
    | .slc k => match q.reg k with
      | .arr t xs => q.setRK k (.frz t xs) fun q => preQ l id q K
      | _ => preQ l id q K
    | _ => preQ l id q K) (preQ l id q K)

theorem preQ_eq {ρ : Type} : ∀ (l : List Nat) (id : Nat) (q : Fq) (K : Fq → ρ) (K' : Fr → ρ), (∀ q, K q = K' q.to) → preQ l id q K = K' (preF l id q.to)
  | [], id, q, K, K', h => h q
  | n :: l, id, q, K, K', h => by
    simp only [preQ, preF, Fq.slot_eq]
    cases Nat.beq (n / 1000) (300 + id) with
    | false => exact preQ_eq l id q K K' h
    | true =>
      simp only [cond_true]
      have hr : ∀ k, q.to.reg k = q.reg k := fun _ => rfl
      cases q.slot (n % 1000) with
      | slc k =>
        simp only [hr]
        cases q.reg k with
        | arr t xs =>
          simp only
          obtain ⟨q1, h1, h2⟩ := Fq.setRK_eq q k (.frz t xs) (fun q => preQ l id q K)
          rw [h1, ← h2]
          exact preQ_eq l id q1 K K' h
        | _ => exact preQ_eq l id q K K' h
      | _ => exact preQ_eq l id q K K' h

noncomputable def runSQ (E : Env) (C : Cfg) (pre : Nat) (H : List It → Ex → Fr → Option Fr) : Nat → Code → List It → Fq → (Ex → Fq → Option Fr) → Option Fr
  | _, .skip, _, q, K => K .normal q
  | _, .region id ops draw, _, q, K => cond draw (preQ C.cons id q fun q => runOpsTQ E C ops.toList ops.toList [] q (K .normal)) (runOpsQ E C ops.toList ops.toList q (K .normal))
  | b, .seq x y, k, q, K => runSQ E C pre H b x (.code b y :: k) q fun e q' => match e with
    | .normal => runSQ E C pre H b y k q' K
    | .exit i => K (.exit i) q'
    | .ret => K .ret q'
  | b, .cond c x y, k, q, K => match c with
    | .tmp t => match q.slot t with
      | .dat .bool z => cond z (q.setSK t (dB true) fun q => runSQ E C pre H b x k q K) (q.setSK t (dB false) fun q => runSQ E C pre H b y k q K)
      | .ub => both (q.setSK t (dB true) fun q => runSQ E C pre H b x k q K) (q.setSK t (dB false) fun q => runSQ E C pre H b y k q K)
      | _ => none
    | .const (.bool z) => cond z (runSQ E C pre H b x k q K) (runSQ E C pre H b y k q K)
    | _ => none
  | _, .block i x, k, q, K => runSQ E C pre H i x (.blk i :: k) q fun e q' => match e with
    | .normal => K .normal q'
    | .exit j => cond (Nat.beq j i) (K .normal q') (K (.exit j) q')
    | .ret => K .ret q'
  | b, .loop x, k, q, _ => nrmHQ C pre b q fun fr1 => H (.code b x :: .lp b x :: k) .normal fr1
  | _, .exit i, _, q, K => K (.exit i) q
  | _, .ret, _, q, K => K .ret q
  | _, _, _, _, _ => none

theorem runSQ_eq {E : Env} {C : Cfg} {pre : Nat} {H : List It → Ex → Fr → Option Fr} : ∀ (c : Code) (b : Nat) (k : List It) (q : Fq) (K : Ex → Fq → Option Fr) (K' : Ex → Fr → Option Fr), (∀ e q, K e q = K' e q.to) →
    runSQ E C pre H b c k q K = runS E C pre H b c k q.to K'
  | .skip, b, k, q, K, K', h => h _ _
  | .region id ops draw, b, k, q, K, K', h => by
    simp only [runSQ, runS]
    rw [preQ_eq C.cons id q _ (fun fr => runOpsTF E C ops.toList ops.toList [] fr (K' .normal)) (fun q => runOpsTQ_eq _ _ q (K .normal) (K' .normal) (h .normal)), runOpsQ_eq _ q (K .normal) (K' .normal) (h .normal)]
  | .seq x y, b, k, q, K, K', h => by
    simp only [runSQ, runS]
    refine runSQ_eq x b _ q _ _ fun e q' => ?_
    cases e with
    | normal => exact runSQ_eq y b k q' K K' h
    | exit i => exact h _ _
    | ret => exact h _ _
  | .cond c x y, b, k, q, K, K', h => by
    simp only [runSQ, runS]
    cases c with
    | tmp t =>
      simp only [Fq.slot_eq]
      cases q.slot t with
      | dat tc z =>
        cases tc with
        | bool =>
          simp only
          obtain ⟨q1, h1, h2, _⟩ := Fq.setSK_eq q t (dB true) (fun q => runSQ E C pre H b x k q K)
          obtain ⟨q2, h3, h4, _⟩ := Fq.setSK_eq q t (dB false) (fun q => runSQ E C pre H b y k q K)
          rw [h1, h3, ← h2, ← h4, runSQ_eq x b k q1 K K' h, runSQ_eq y b k q2 K K' h]
        | _ => rfl
      | ub =>
        simp only
        obtain ⟨q1, h1, h2, _⟩ := Fq.setSK_eq q t (dB true) (fun q => runSQ E C pre H b x k q K)
        obtain ⟨q2, h3, h4, _⟩ := Fq.setSK_eq q t (dB false) (fun q => runSQ E C pre H b y k q K)
        rw [h1, h3, ← h2, ← h4, runSQ_eq x b k q1 K K' h, runSQ_eq y b k q2 K K' h]
      | _ => rfl
    | const v =>
      cases v with
      | bool z => simp only; rw [runSQ_eq x b k q K K' h, runSQ_eq y b k q K K' h]
      | _ => rfl
    | _ => rfl
  | .block i x, b, k, q, K, K', h => by
    simp only [runSQ, runS]
    refine runSQ_eq x i _ q _ _ fun e q' => ?_
    cases e with
    | normal => exact h _ _
    | exit j => simp only [h]
    | ret => exact h _ _
  | .loop x, b, k, q, K, K', h => by simp only [runSQ, runS, nrmHQ_eq]
  | .exit i, b, k, q, K, K', h => h _ _
  | .ret, b, k, q, K, K', h => h _ _
  | .rangeFunc _ _ _ _, b, k, q, K, K', h => rfl
  | .scope _, b, k, q, K, K', h => rfl
  | .label _, b, k, q, K, K', h => rfl
  | .goto _, b, k, q, K, K', h => rfl
  | .refuse _, b, k, q, K, K', h => rfl

noncomputable def contSQ (E : Env) (C : Cfg) (pre : Nat) (F : Ex → Fq → Option Fr) (H : List It → Ex → Fr → Option Fr) : List It → Ex → Fq → Option Fr
  | [], e, q => F e q
  | .code b c :: k, .normal, q => runSQ E C pre H b c k q (contSQ E C pre F H k)
  | .code _ _ :: k, e, q => contSQ E C pre F H k e q
  | .blk i :: k, .exit j, q => cond (Nat.beq j i) (contSQ E C pre F H k .normal q) (contSQ E C pre F H k (.exit j) q)
  | .blk _ :: k, e, q => contSQ E C pre F H k e q
  | .lp b x :: k, .normal, q => nrmHQ C pre b q fun fr1 => H (.code b x :: .lp b x :: k) .normal fr1
  | .lp _ _ :: k, e, q => contSQ E C pre F H k e q

theorem contSQ_eq {E : Env} {C : Cfg} {pre : Nat} {F : Ex → Fq → Option Fr} {F' : Ex → Fr → Option Fr} {H : List It → Ex → Fr → Option Fr} (hF : ∀ e q, F e q = F' e q.to) :
    ∀ (k : List It) (e : Ex) (q : Fq), contSQ E C pre F H k e q = contS E C pre F' H k e q.to
  | [], e, q => hF e q
  | .code b c :: k, .normal, q => by
    simp only [contSQ, contS]
    exact runSQ_eq c b k q _ _ (contSQ_eq hF k)
  | .code _ _ :: k, .exit i, q => by simp only [contSQ, contS]; exact contSQ_eq hF k _ q
  | .code _ _ :: k, .ret, q => by simp only [contSQ, contS]; exact contSQ_eq hF k _ q
  | .blk i :: k, .normal, q => by simp only [contSQ, contS]; exact contSQ_eq hF k _ q
  | .blk i :: k, .ret, q => by simp only [contSQ, contS]; exact contSQ_eq hF k _ q
  | .blk i :: k, .exit j, q => by simp only [contSQ, contS]; rw [contSQ_eq hF k, contSQ_eq hF k]
  | .lp b x :: k, .normal, q => by simp only [contSQ, contS, nrmHQ_eq]
  | .lp _ _ :: k, .exit i, q => by simp only [contSQ, contS]; exact contSQ_eq hF k _ q
  | .lp _ _ :: k, .ret, q => by simp only [contSQ, contS]; exact contSQ_eq hF k _ q

def finQ (E : Env) (pre : Nat) (rs : List ResultVar) (ms : List RM) : Ex → Fq → Option Fr
  | .exit _, _ => none
  | _, q => ((resV E rs).bind (resM 0 ms)).execQ q fun l q' => pack pre pre ⟨l, q'.regs⟩

theorem finQ_eq (E : Env) (pre : Nat) (rs : List ResultVar) (ms : List RM) (e : Ex) (q : Fq) : finQ E pre rs ms e q = fin E pre rs ms e q.to := by
  cases e with
  | exit i => rfl
  | normal => exact execQ_eq _ _ _ _ fun _ _ => rfl
  | ret => exact execQ_eq _ _ _ _ fun _ _ => rfl

/-! ### where a run begins -/
def mkT : List (Nat × FV) → Tr → Tr
  | [], t => t
  | (i, v) :: l, t => mkT l (Tr.set (Nat.succ i) t i v)
def mkTK {ρ : Type} : List (Nat × FV) → Tr → (Tr → ρ) → ρ
  | [], t, k => k t
  | (i, v) :: l, t, k => Tr.setK (Nat.succ i) t i v fun t => mkTK l t k
theorem mkTK_eq {ρ : Type} : ∀ (l : List (Nat × FV)) (t : Tr) (k : Tr → ρ), mkTK l t k = k (mkT l t)
  | [], t, k => rfl
  | (i, v) :: l, t, k => by simp only [mkTK, mkT, Tr.setK_eq, mkTK_eq l]

def ascB : Nat → List (Nat × FV) → Bool
  | _, [] => true
  | i, p :: l => cond (Nat.ble i p.1) (ascB (p.1 + 1) l) false

theorem mkT_get : ∀ (l : List (Nat × FV)) (t : Tr) (i : Nat), ascB i l = true → ∀ j, j < i → (mkT l t).get j = t.get j
  | [], t, i, h, j, hj => rfl
  | (k, v) :: l, t, i, h, j, hj => by
    simp only [ascB] at h
    cases hb : Nat.ble i k with
    | false => rw [hb] at h; cases h
    | true =>
      rw [hb] at h
      have := Nat.le_of_ble_eq_true hb
      simp only [mkT]
      rw [mkT_get l _ (k + 1) h j (by omega), Tr.get_set _ _ _ _ _ (Nat.lt_succ_self k), if_neg (by omega)]

theorem mkT_mkS : ∀ (n i : Nat) (l : List (Nat × FV)) (t : Tr), ascB i l = true → (∀ j, i ≤ j → t.get j = .undef) → (List.range' i n).map (mkT l t).get = mkS i n l
  | 0, i, l, t, h, ht => by cases l <;> rfl
  | n + 1, i, [], t, h, ht => by
    simp only [mkS, List.range'_succ, List.map_cons, mkT]
    rw [ht i (Nat.le_refl _)]
    have := mkT_mkS n (i + 1) [] t rfl (fun j hj => ht j (by omega))
    simp only [mkT] at this
    rw [this]
  | n + 1, i, (k, v) :: l, t, h, ht => by
    have hh := h
    simp only [ascB] at h
    cases hb : Nat.ble i k with
    | false => rw [hb] at h; cases h
    | true =>
      rw [hb] at h
      simp only [cond_true] at h
      have hk := Nat.le_of_ble_eq_true hb
      simp only [mkS, List.range'_succ, List.map_cons]
      have hs : ∀ j, (Tr.set (Nat.succ k) t k v).get j = if j = k then v else t.get j := fun j => Tr.get_set _ _ _ _ _ (Nat.lt_succ_self k)
      cases he : Nat.beq i k with
      | true =>
        have := Nat.eq_of_beq_eq_true he
        subst this
        simp only [cond_true, mkT]
        rw [mkT_get l _ (i + 1) h i (Nat.lt_succ_self i), hs, if_pos rfl]
        rw [mkT_mkS n (i + 1) l _ h (fun j hj => by rw [hs, if_neg (by omega)]; exact ht j (by omega))]
      | false =>
        have hne : i ≠ k := fun e => by subst e; simp at he
        simp only [cond_false]
        have h2 : ascB (i + 1) ((k, v) :: l) = true := by
          simp only [ascB]
          have : Nat.ble (i + 1) k = true := Nat.ble_eq_true_of_le (by omega)
          rw [this]; exact h
        rw [mkT_get ((k, v) :: l) t (i + 1) h2 i (Nat.lt_succ_self i), ht i (Nat.le_refl _), mkT_mkS n (i + 1) _ t h2 (fun j hj => ht j (by omega))]

theorem mkF_to (n : Nat) (l : List (Nat × FV)) (r : List (Nat × Reg)) (h : ascB 0 l = true) : mkF n l r = Fq.to ⟨n, mkT l .leaf, r⟩ := by
  unfold mkF Fq.to
  simp only
  rw [List.range_eq_range', mkT_mkS n 0 l .leaf h (fun j _ => rfl)]
end Go.Ev

set_option linter.unusedSimpArgs false
set_option linter.unusedVariables false
namespace Go.Ev
open Go

/-- What comes out of a piece of code, when less is left to do. -/
def Left (E : Env) (C : Cfg) (pre : Nat) (F : Ex → Fr → Option Fr) (w0 : World) (en : Ent) (V0 : Vw) (n : Nat) (k : List It) (out : Fr) (e : Exit) (a : Act) (w : World) : Prop :=
  ∃ (fr' : Fr) (n' : Nat) (e' : Ex), n' < n ∧ ex E C pre F n' k e' fr' = some out ∧ e = e'.to ∧ InvW w0 en V0 fr' a w

theorem left_mono {E : Env} {C : Cfg} {pre : Nat} {F : Ex → Fr → Option Fr} {w0 : World} {en : Ent} {V0 : Vw} {n m : Nat} {k : List It} {out : Fr} {e : Exit} {a : Act} {w : World} (h : n ≤ m)
    (hl : Left E C pre F w0 en V0 n k out e a w) : Left E C pre F w0 en V0 m k out e a w := by
  obtain ⟨fr', n', e', h1, h2⟩ := hl
  exact ⟨fr', n', e', Nat.lt_of_lt_of_le h1 h, h2⟩

theorem ex_pos {E : Env} {C : Cfg} {pre : Nat} {F : Ex → Fr → Option Fr} {n : Nat} {k : List It} {e : Ex} {fr out : Fr} (h : ex E C pre F n k e fr = some out) :
    ∃ m, n = m + 1 ∧ stepF E C pre F (ex E C pre F m) k e fr = some out := by
  cases n with
  | zero => cases h
  | succ m => exact ⟨m, rfl, h⟩

theorem preF_ok {w0 : World} {en : Ent} {V0 : Vw} {a : Act} {w : World} : ∀ (l : List Nat) (id : Nat) (fr : Fr), InvW w0 en V0 fr a w → InvW w0 en V0 (preF l id fr) a w
  | [], id, fr, h => h
  | n :: l, id, fr, h => by
    simp only [preF]
    cases Nat.beq (n / 1000) (300 + id) with
    | false => exact preF_ok l id fr h
    | true =>
      simp only [cond_true]
      cases fr.slot (n % 1000) with
      | slc k =>
        simp only
        cases hk : fr.reg k with
        | arr t xs =>
          refine preF_ok l id _ ?_
          obtain ⟨⟨hd, loc, S, hc, hs, h0⟩, hsm⟩ := h
          obtain ⟨S1, h1, h2, _⟩ := ctx_freeze hc hk
          rw [← setR_reg] at h1 h2
          exact ⟨⟨hd, loc, S1, h1, RelVs_mono h2 _ _ hs, Vw.le_trans h0 h2⟩, hsm⟩
        | _ => exact preF_ok l id fr h
      | _ => exact preF_ok l id fr h

theorem code_ok {P : Program} {E : Env} (hE : EnvOk P E) (hm : P.follows .mixedOrders = true) {C : Cfg} {w0 : World} {en : Ent} {V0 : Vw} (hG : E.gl V0.S V0.h) {pre : Nat} (hb : Below V0 pre) {F : Ex → Fr → Option Fr} {out : Fr} :
    ∀ (n : Nat) (c : Code) (b : Nat) (k : List It) (fr : Fr) (a : Act) (w : World), ex E C pre F n (.code b c :: k) .normal fr = some out → InvW w0 en V0 fr a w →
      c.wp P (Left E C pre F w0 en V0 n k out) a w := by
  intro n
  induction n using Nat.strongRecOn with
  | _ n ih =>
    intro c b k fr a w h hi
    replace h := ex_pos h; obtain ⟨m, rfl, hs⟩ := h
    replace h := hs; clear hs
    have lt : m < m + 1 := Nat.lt_succ_self m
    cases c with
    | skip => exact wp_skip ⟨fr, m, .normal, lt, h, rfl, hi⟩
    | region id ops draw =>
      simp only [stepF] at h
      cases draw with
      | true => exact draw_ok hE hm hG (fun fr' a' w' h' hi' => ⟨fr', m, .normal, lt, h', rfl, hi'⟩) h (preF_ok C.cons id fr hi)
      | false => exact wp_region_list (runOps_ok hE hG (fun fr' a' w' h' hi' => ⟨fr', m, .normal, lt, h', rfl, hi'⟩) _ _ _ _ h hi)
    | seq x y =>
      simp only [stepF] at h
      refine wp_seq (wp_mono (ih m lt x b _ fr a w h hi) ?_)
      rintro e a' w' ⟨fr', n', e', h1, h2, rfl, hi'⟩
      cases e' with
      | normal => exact wp_mono (ih n' (by omega) y b k fr' a' w' h2 hi') fun e a w hl => left_mono (by omega) hl
      | exit i =>
        obtain ⟨m', rfl, h3⟩ := ex_pos h2
        exact ⟨fr', m', .exit i, by omega, h3, rfl, hi'⟩
      | ret =>
        obtain ⟨m', rfl, h3⟩ := ex_pos h2
        exact ⟨fr', m', .ret, by omega, h3, rfl, hi'⟩
    | cond c x y =>
      simp only [stepF] at h
      split at h
      · rename_i t
        split at h
        · rename_i q hq
          have hev := (eval_slot hi.1.2.choose_spec.choose_spec.2.1 hq).1
          refine wp_cond hev ?_
          cases q with
          | true => exact wp_mono (ih m lt x b k _ a w h ⟨inv_setB hi.1 hq, hi.2⟩) fun e a w hl => left_mono (by omega) hl
          | false => exact wp_mono (ih m lt y b k _ a w h ⟨inv_setB hi.1 hq, hi.2⟩) fun e a w hl => left_mono (by omega) hl
        · rename_i hq
          obtain ⟨q, hev, hget⟩ := eval_ub hi.1.2.choose_spec.choose_spec.2.1 hq
          obtain ⟨g1, g2⟩ := both_some.1 h
          refine wp_cond hev ?_
          cases q with
          | true => exact wp_mono (ih m lt x b k _ a w g1 ⟨inv_setU hi.1 hget, hi.2⟩) fun e a w hl => left_mono (by omega) hl
          | false => exact wp_mono (ih m lt y b k _ a w g2 ⟨inv_setU hi.1 hget, hi.2⟩) fun e a w hl => left_mono (by omega) hl
        · cases h
      · rename_i q
        refine wp_cond (t := q) rfl ?_
        cases q with
        | true => exact wp_mono (ih m lt x b k _ a w h hi) fun e a w hl => left_mono (by omega) hl
        | false => exact wp_mono (ih m lt y b k _ a w h hi) fun e a w hl => left_mono (by omega) hl
      · cases h
    | block i x =>
      simp only [stepF] at h
      refine wp_block (wp_mono (ih m lt x i _ fr a w h hi) ?_)
      rintro e a' w' ⟨fr', n', e', h1, h2, rfl, hi'⟩
      obtain ⟨m', rfl, h3⟩ := ex_pos h2
      cases e' with
      | normal => exact ⟨fr', m', .normal, by omega, h3, rfl, hi'⟩
      | exit j =>
        simp only [Ex.to, Exit.inBlock]
        simp only [stepF] at h3
        cases hj : Nat.beq j i with
        | true =>
          rw [hj] at h3
          rw [if_pos (Nat.eq_of_beq_eq_true hj)]
          exact ⟨fr', m', .normal, by omega, h3, rfl, hi'⟩
        | false =>
          rw [hj] at h3
          rw [if_neg (by rintro rfl; simp at hj)]
          exact ⟨fr', m', .exit j, by omega, h3, rfl, hi'⟩
      | ret => exact ⟨fr', m', .ret, by omega, h3, rfl, hi'⟩
    | loop x =>
      simp only [stepF] at h
      refine wp_loop_ghost (fun q a w => q < m + 1 ∧ ∃ fr, ex E C pre F q (.lp b x :: k) .normal fr = some out ∧ InvW w0 en V0 fr a w) m ⟨lt, fr, h, hi⟩ ?_
      rintro q a w ⟨hq, fr, h, hi⟩
      obtain ⟨q', rfl, h1⟩ := ex_pos h
      simp only [stepF] at h1
      cases hn : nrmB C pre b fr with
      | none => rw [hn] at h1; cases h1
      | some fr1 =>
        rw [hn] at h1
        simp only [Option.bind_some] at h1
        refine wp_mono (ih q' (by omega) x b _ fr1 a w h1 ⟨norm_ok hn hi.1 hb, hi.2⟩) ?_
        rintro e a' w' ⟨fr', n', e', h2, h3, rfl, hi'⟩
        cases e' with
        | normal => exact ⟨n', by omega, by omega, fr', h3, hi'⟩
        | exit i =>
          obtain ⟨m', rfl, h4⟩ := ex_pos h3
          exact ⟨fr', m', .exit i, by omega, h4, rfl, hi'⟩
        | ret =>
          obtain ⟨m', rfl, h4⟩ := ex_pos h3
          exact ⟨fr', m', .ret, by omega, h4, rfl, hi'⟩
    | exit i => exact wp_exit ⟨fr, m, .exit i, lt, h, rfl, hi⟩
    | ret => exact wp_ret ⟨fr, m, .ret, lt, h, rfl, hi⟩
    | rangeFunc _ _ _ _ => cases h
    | scope _ => cases h
    | label _ => cases h
    | goto _ => cases h
    | refuse _ => cases h

/-- What a function is for its evaluation. -/
structure FnI where
  E : Env
  C : Cfg
  fn : Func
  code : Code
  ms : List RM
  pre : Nat

def FnI.F (I : FnI) : Ex → Fr → Option Fr := fin I.E I.pre I.fn.results.toList I.ms

/-- The state in which something is still to be done. -/
noncomputable def FnI.T (I : FnI) (k : List It) (fr : Fr) : Option Fr := Ev.T I.E I.C I.pre I.F k .normal fr

/-- The same, one stretch further. -/
noncomputable def FnI.G (I : FnI) (b : Nat) (c : Code) (k : List It) (fr : Fr) : Option Fr :=
  runS I.E I.C I.pre (fun k e fr => match e with | .normal => I.T k fr | e => Ev.T I.E I.C I.pre I.F k e fr) b c k fr (contS I.E I.C I.pre I.F (fun k e fr => match e with | .normal => I.T k fr | e => Ev.T I.E I.C I.pre I.F k e fr) k)

theorem FnI.T_eq (I : FnI) (b : Nat) (c : Code) (k : List It) (fr : Fr) : I.T (.code b c :: k) fr = I.G b c k fr := by
  have : (fun (k : List It) (e : Ex) (fr : Fr) => match e with | .normal => I.T k fr | e => Ev.T I.E I.C I.pre I.F k e fr) = Ev.T I.E I.C I.pre I.F := by
    funext k e fr
    cases e <;> rfl
  unfold FnI.G
  rw [this]
  exact T_code b c k fr

def FnI.FQ (I : FnI) : Ex → Fq → Option Fr := finQ I.E I.pre I.fn.results.toList I.ms

/-- The same over a tree of slots. -/
noncomputable def FnI.GQ (I : FnI) (b : Nat) (c : Code) (k : List It) (q : Fq) : Option Fr :=
  runSQ I.E I.C I.pre (fun k e fr => match e with | .normal => I.T k fr | e => Ev.T I.E I.C I.pre I.F k e fr) b c k q (contSQ I.E I.C I.pre I.FQ (fun k e fr => match e with | .normal => I.T k fr | e => Ev.T I.E I.C I.pre I.F k e fr) k)

theorem FnI.GQ_eq (I : FnI) (b : Nat) (c : Code) (k : List It) (q : Fq) : I.GQ b c k q = I.G b c k q.to := by
  unfold FnI.GQ FnI.G
  exact runSQ_eq c b k q _ _ fun e q => contSQ_eq (fun e q => finQ_eq _ _ _ _ e q) k e q

/-- From a frame of which most slots are empty. -/
noncomputable def FnI.GF (I : FnI) (b : Nat) (c : Code) (k : List It) (n : Nat) (l : List (Nat × FV)) (r : List (Nat × Reg)) : Option Fr :=
  cond (ascB 0 l) (mkTK l .leaf fun t => I.GQ b c k ⟨n, t, r⟩) (I.G b c k (mkF n l r))

theorem FnI.GF_eq (I : FnI) (b : Nat) (c : Code) (k : List It) (n : Nat) (l : List (Nat × FV)) (r : List (Nat × Reg)) : I.GF b c k n l r = I.G b c k (mkF n l r) := by
  unfold FnI.GF
  cases h : ascB 0 l with
  | false => rfl
  | true => simp only [cond_true, mkTK_eq, FnI.GQ_eq, mkF_to n l r h]

/-- The run of the whole function. -/
noncomputable def FnI.run (I : FnI) (pk : Fr) : Option Fr :=
  cond (pk.regs.all fun p => Nat.blt p.1 I.pre) (I.T [.code 0 I.code] ⟨pk.slots ++ List.replicate (I.fn.ntmps - pk.slots.length) .undef, pk.regs⟩) none

theorem FnI.sound {P : Program} (I : FnI) (hE : EnvOk P I.E) (hm : P.follows .mixedOrders = true) {f : FuncId} (hf : P.funcs[f]? = some I.fn) (hbody : I.fn.body = some I.code)
    {s : Spec} (hs : ∀ pk out, s.ok pk = true → s.fn pk = some out → I.run pk = some out) : Sound P I.E.gl f s := by
  intro pk out hok hout vals w loc S hcore hG hrel
  have hrun := hs pk out hok hout
  unfold FnI.run at hrun
  cases hall : pk.regs.all fun p => Nat.blt p.1 I.pre with
  | false => rw [hall] at hrun; cases hrun
  | true =>
    rw [hall] at hrun
    simp only [cond_true, FnI.T] at hrun
    obtain ⟨n, hrun⟩ := T_iff.1 hrun
    have habs : ∀ k, I.pre ≤ k → pk.reg k = .abs := by
      intro k hk
      refine Classical.byContradiction fun hne => ?_
      have hmem := regAt_mem (l := pk.regs) (k := k) rfl hne
      have := List.all_eq_true.1 hall _ hmem
      simp [blt_dec] at this
      omega
    have hb : Below (view pk.reg loc S w.heap) I.pre := view_below habs
    refine calls_of_wp hf hbody ?_
    have hi : Inv (entOf pk loc S w.heap) (view pk.reg loc S w.heap) ⟨pk.slots ++ List.replicate (I.fn.ntmps - pk.slots.length) .undef, pk.regs⟩
        { tmps := vals.toArray ++ Array.replicate (I.fn.ntmps - vals.toArray.size) undef, defers := [] } w.heap := by
      refine ⟨rfl, loc, S, ⟨hcore, ⟨Nat.le_refl _, fun _ _ _ => rfl, fun _ h => h, fun _ h => .inl h, fun k hk => .inl ⟨k, hk, rfl⟩, fun b hb ⟨k, hk, e⟩ => hcore.nS k hk (e ▸ hb), hcore.bS⟩⟩, ?_, Vw.le_refl _⟩
      have hl := RelVs_len _ _ hrel
      simp only [Array.toList_append, Array.toList_replicate]
      refine RelVs_app _ _ _ _ hrel (RelVs_undef _ _ ?_)
      simp [hl]
    refine wp_mono (code_ok (w0 := w) hE hm hG hb n I.code 0 [] _ _ w hrun ⟨hi, Sm.rfl'⟩) ?_
    rintro e a' w' ⟨fr', n', e', h1, h2, rfl, hi'⟩
    obtain ⟨m', rfl, h'⟩ := ex_pos h2
    have hfin : ((resV I.E I.fn.results.toList).bind (resM 0 I.ms)).exec fr' (fun l fr' => pack I.pre I.pre ⟨l, fr'.regs⟩) = some out ∧ (e'.to = .normal ∨ e'.to = .ret) := by
      cases e' with
      | normal => exact ⟨h', .inl rfl⟩
      | exit i => simp [stepF, FnI.F, fin] at h'
      | ret => exact ⟨h', .inr rfl⟩
    obtain ⟨hfin, he⟩ := hfin
    rw [Pr.exec_go] at hfin
    cases hg : ((resV I.E I.fn.results.toList).bind (resM 0 I.ms)).go fr' with
    | none => rw [hg] at hfin; cases hfin
    | some x =>
      obtain ⟨l', fr2⟩ := x
      rw [hg] at hfin
      simp only [Option.bind_some] at hfin
      obtain ⟨vs, fr1, q1, q2⟩ := Pr.go_bind_some hg
      obtain ⟨⟨hd, loc1, S1, hc1, hs1, h0⟩, hsm⟩ := hi'
      obtain ⟨rfl, us, ht, hv⟩ := resV_ok hE _ _ _ _ q1 hc1.core hs1
      obtain ⟨loc2, S2, k1, k2, k3⟩ := resM_ok I.ms 0 _ l' _ _ _ loc1 S1 q2 hc1 hv
      obtain ⟨loc3, g1, g2, g3⟩ := pack_ok (fr := ⟨l', fr2.regs⟩) hfin (loc := loc2) (S := S2) k1 k3 (Vw.le_trans h0 k2) hb
      have hres := results_run ht
      have hpost : a'.defers = [] ∧ ∃ v, (results I.fn a'.tmps).run P w' = .ok v w' ∧ ∃ u, Ending.returned v = .returned u ∧ Sm w w' ∧ ∃ loc' S', Ctx (entOf pk loc S w.heap) out.reg loc' S' w'.heap ∧
          (view pk.reg loc S w.heap).le (view out.reg loc' S' w'.heap) ∧ RelV (view out.reg loc' S' w'.heap) (resFV out.slots) u :=
        ⟨hd, _, hres, _, rfl, hsm, loc3, S2, g1, g3, resFV_ok g2⟩
      rcases he with he | he <;> rw [he] <;> exact hpost

end Go.Ev

set_option linter.unusedSimpArgs false
set_option linter.unusedVariables false
namespace Go.Ev
open Go

/-! ### short ways to write things -/
abbrev wrap : IntKind → Int → Int := IntKind.wrap
abbrev tI : Tc := .int .i64
def codeOf (f : Func) : Code := f.body.getD .skip

/-- The way to the loop in block t. -/
def stk (t : Nat) : Nat → Code → List It → Option (List It)
  | b, .seq x y, k => match stk t b x (.code b y :: k) with
    | some r => some r
    | none => stk t b y k
  | b, .cond _ x y, k => match stk t b x k with
    | some r => some r
    | none => stk t b y k
  | _, .block i x, k => stk t i x (.blk i :: k)
  | b, .loop x, k => cond (Nat.beq b t) (some (.code b x :: .lp b x :: k)) (stk t b x (.lp b x :: k))
  | _, _, _ => none

noncomputable def FnI.hd (I : FnI) (t : Nat) (fr : Fr) : Option Fr := I.T ((stk t 0 I.code []).getD []) fr

noncomputable def FnI.gd (I : FnI) (t n : Nat) (l : List (Nat × FV)) (r : List (Nat × Reg)) : Option Fr := match (stk t 0 I.code []).getD [] with
  | .code b c :: k => I.GF b c k n l r
  | k => I.T k (mkF n l r)

theorem FnI.hd_eq (I : FnI) (t n : Nat) (l : List (Nat × FV)) (r : List (Nat × Reg)) : I.hd t (mkF n l r) = I.gd t n l r := by
  unfold FnI.hd FnI.gd
  split
  · rename_i b c k h
    rw [h, FnI.GF_eq]; exact I.T_eq b c k _
  · rfl

theorem hdEq {I : FnI} {t n : Nat} {l : List (Nat × FV)} {rg : List (Nat × Reg)} {r : Option Fr} (h : I.gd t n l rg = r) : I.hd t (mkF n l rg) = r := (I.hd_eq t n l rg).trans h

def num0 : Nat → List FV → List (Nat × FV)
  | _, [] => []
  | i, v :: l => (i, v) :: num0 (i + 1) l

noncomputable def FnI.run' (I : FnI) (pk : Fr) : Option Fr :=
  cond (pk.regs.all fun p => Nat.blt p.1 I.pre) (cond (Nat.ble pk.slots.length I.fn.ntmps) (I.GF 0 I.code [] I.fn.ntmps (num0 0 pk.slots) pk.regs) (I.T [.code 0 I.code] ⟨pk.slots ++ List.replicate (I.fn.ntmps - pk.slots.length) .undef, pk.regs⟩)) none

theorem mkS_nil : ∀ (n i : Nat), mkS i n [] = List.replicate n .undef
  | 0, i => rfl
  | n + 1, i => by simp only [mkS, List.replicate_succ]; rw [mkS_nil n]

theorem mkS_num0 : ∀ (l : List FV) (i n : Nat), l.length ≤ n → mkS i n (num0 i l) = l ++ List.replicate (n - l.length) .undef
  | [], i, n, h => by simp only [num0, mkS_nil]; rfl
  | v :: l, i, 0, h => by simp at h
  | v :: l, i, n + 1, h => by
    simp only [num0, mkS, List.length_cons]
    rw [show Nat.beq i i = true from by simp]
    simp only [cond_true, List.cons_append]
    rw [mkS_num0 l (i + 1) n (by simpa using h), show n + 1 - (l.length + 1) = n - l.length by omega]

theorem FnI.run_eq (I : FnI) (pk : Fr) : I.run pk = I.run' pk := by
  unfold FnI.run FnI.run'
  cases h : Nat.ble pk.slots.length I.fn.ntmps with
  | false => rfl
  | true =>
    have hle := Nat.le_of_ble_eq_true h
    simp only [cond_true, FnI.GF_eq]
    unfold mkF
    rw [mkS_num0 _ 0 _ hle, I.T_eq]

theorem enters_of {P : Program} {f : FuncId} {fn : Func} {c : Code} (hf : P.funcs[f]? = some fn) (hb : fn.body = some c) (hn : (fn.name == "runtime.NumGoroutine") = false) : Enters P f := by
  intro args w
  have : fn.name ≠ "runtime.NumGoroutine" := by simpa using hn
  simp [callFunc, hf, hb, this]

/-! ### contracts -/
@[reducible] def Tup : List Tc → Type
  | [] => Unit
  | t :: ts => t.den × Tup ts

def undats : (ts : List Tc) → Tup ts → List FV
  | [], _ => []
  | t :: ts, x => .dat t x.1 :: undats ts x.2

def dats : (ts : List Tc) → List FV → Option (Tup ts)
  | [], [] => some ()
  | t :: ts, .dat t' x :: l => if h : t' = t then (dats ts l).map fun y => (h ▸ x, y) else none
  | _, _ => none

theorem dats_some : ∀ (ts : List Tc) (l : List FV) (x : Tup ts), dats ts l = some x → l = undats ts x
  | [], [], x, h => rfl
  | [], _ :: _, x, h => by simp [dats] at h
  | t :: ts, [], x, h => by simp [dats] at h
  | t :: ts, v :: l, x, h => by
    cases v with
    | dat t' y =>
      simp only [dats] at h
      split at h
      · rename_i e
        subst e
        cases hd : dats ts l with
        | none => rw [hd] at h; cases h
        | some z =>
          rw [hd] at h
          simp only [Option.map_some, Option.some.injEq] at h
          subst h
          simp only [undats, dats_some ts l z hd]
      · cases h
    | _ => simp [dats] at h

/-! ### frames with holes (.undef) for closed data -/
mutual
def matchV : FV → FV → Option (List FV)
  | .undef, v => match v with
    | .dat t x => some [.dat t x]
    | _ => none
  | .ptr k o, v => match v with
    | .ptr k' o' => cond (Nat.beq k k' && Nat.beq o o') (some []) none
    | _ => none
  | .slc k, v => match v with
    | .slc k' => cond (Nat.beq k k') (some []) none
    | _ => none
  | .nil0, v => match v with
    | .nil0 => some []
    | _ => none
  | .nilp, v => match v with
    | .nilp => some []
    | _ => none
  | .nilm, v => match v with
    | .nilm => some []
    | _ => none
  | .nilf, v => match v with
    | .nilf => some []
    | _ => none
  | .agg l, v => match v with
    | .agg l' => matchL l l'
    | _ => none
  | .clos f l, v => match v with
    | .clos f' l' => cond (Nat.beq f f') (matchL l l') none
    | _ => none
  | _, _ => none
def matchL : List FV → List FV → Option (List FV)
  | [], l => match l with
    | [] => some []
    | _ => none
  | p :: ps, l => match l with
    | [] => none
    | v :: l => match matchV p v with
      | some a => match matchL ps l with
        | some b => some (a ++ b)
        | none => none
      | none => none
end

mutual
def fillV : FV → List FV → FV × List FV
  | .undef, hs => match hs with
    | h :: hs => (h, hs)
    | [] => (.undef, [])
  | .agg l, hs => (.agg (fillL l hs).1, (fillL l hs).2)
  | .clos f l, hs => (.clos f (fillL l hs).1, (fillL l hs).2)
  | v, hs => (v, hs)
def fillL : List FV → List FV → List FV × List FV
  | [], hs => ([], hs)
  | p :: ps, hs => ((fillV p hs).1 :: (fillL ps (fillV p hs).2).1, (fillL ps (fillV p hs).2).2)
end

def matchR : Reg → Reg → Option (List FV)
  | .box l, r => match r with
    | .box l' => matchL l l'
    | _ => none
  | .arr t _, r => match r with
    | .arr t' xs => if t = t' then some [.dat (.slice t') xs] else none
    | _ => none
  | .frz t _, r => match r with
    | .frz t' xs => if t = t' then some [.dat (.slice t') xs] else none
    | _ => none
  | _, _ => none

def fillR : Reg → List FV → Reg × List FV
  | .box l, hs => (.box (fillL l hs).1, (fillL l hs).2)
  | .arr t xs, hs => match hs with
    | .dat (.slice t') ys :: hs => (.arr t' ys, hs)
    | _ => (.arr t xs, hs)
  | .frz t xs, hs => match hs with
    | .dat (.slice t') ys :: hs => (.frz t' ys, hs)
    | _ => (.frz t xs, hs)
  | r, hs => (r, hs)

def matchRs : List (Nat × Reg) → List (Nat × Reg) → Option (List FV)
  | [], l => match l with
    | [] => some []
    | _ => none
  | (i, p) :: ps, l => match l with
    | [] => none
    | (j, r) :: l => cond (Nat.beq i j) (match matchR p r with
      | some a => match matchRs ps l with
        | some b => some (a ++ b)
        | none => none
      | none => none) none

def fillRs : List (Nat × Reg) → List FV → List (Nat × Reg)
  | [], _ => []
  | (i, p) :: ps, hs => (i, (fillR p hs).1) :: fillRs ps (fillR p hs).2

def matchF (p fr : Fr) : Option (List FV) := match matchL p.slots fr.slots with
  | some a => match matchRs p.regs fr.regs with
    | some b => some (a ++ b)
    | none => none
  | none => none

def fillF (p : Fr) (hs : List FV) : Fr := ⟨(fillL p.slots hs).1, fillRs p.regs (fillL p.slots hs).2⟩

theorem beq_ok {a b : Nat} (h : Nat.beq a b = true) : a = b := Nat.eq_of_beq_eq_true h

mutual
theorem fillV_match : ∀ (p v : FV) (hs rest : List FV), matchV p v = some hs → fillV p (hs ++ rest) = (v, rest)
  | .undef, v, hs, rest, h => by
    cases v <;> simp only [matchV] at h <;> first | (cases h; done) | skip
    cases h; rfl
  | .ptr k o, v, hs, rest, h => by
    cases v <;> simp only [matchV] at h <;> first | (cases h; done) | skip
    rename_i k' o'
    cases hb : (Nat.beq k k' && Nat.beq o o') with
    | false => rw [hb] at h; cases h
    | true =>
      rw [hb] at h
      simp only [Bool.and_eq_true] at hb
      rw [beq_ok hb.1, beq_ok hb.2]
      cases h; rfl
  | .slc k, v, hs, rest, h => by
    cases v <;> simp only [matchV] at h <;> first | (cases h; done) | skip
    rename_i k'
    cases hb : Nat.beq k k' with
    | false => rw [hb] at h; cases h
    | true => rw [hb] at h; rw [beq_ok hb]; cases h; rfl
  | .nil0, v, hs, rest, h => by
    cases v <;> simp only [matchV] at h <;> first | (cases h; done) | skip
    cases h; rfl
  | .nilp, v, hs, rest, h => by
    cases v <;> simp only [matchV] at h <;> first | (cases h; done) | skip
    cases h; rfl
  | .nilm, v, hs, rest, h => by
    cases v <;> simp only [matchV] at h <;> first | (cases h; done) | skip
    cases h; rfl
  | .nilf, v, hs, rest, h => by
    cases v <;> simp only [matchV] at h <;> first | (cases h; done) | skip
    cases h; rfl
  | .agg l, v, hs, rest, h => by
    cases v <;> simp only [matchV] at h <;> first | (cases h; done) | skip
    simp only [fillV, fillL_match l _ hs rest h]
  | .clos f l, v, hs, rest, h => by
    cases v <;> simp only [matchV] at h <;> first | (cases h; done) | skip
    rename_i f' l'
    cases hb : Nat.beq f f' with
    | false => rw [hb] at h; cases h
    | true =>
      rw [hb] at h
      rw [beq_ok hb]
      simp only [fillV, fillL_match l _ hs rest h]
  | .skp, v, hs, rest, h => by simp [matchV] at h
  | .ub, v, hs, rest, h => by simp [matchV] at h
  | .dat t x, v, hs, rest, h => by simp [matchV] at h
  | .ep k i o, v, hs, rest, h => by simp [matchV] at h
  | .fp t x, v, hs, rest, h => by simp [matchV] at h
  | .mp k, v, hs, rest, h => by simp [matchV] at h
  | .tup l, v, hs, rest, h => by simp [matchV] at h
theorem fillL_match : ∀ (p l : List FV) (hs rest : List FV), matchL p l = some hs → fillL p (hs ++ rest) = (l, rest)
  | [], l, hs, rest, h => by
    cases l <;> simp only [matchL] at h <;> first | (cases h; done) | skip
    cases h; rfl
  | p :: ps, l, hs, rest, h => by
    cases l with
    | nil => simp [matchL] at h
    | cons v l =>
      simp only [matchL] at h
      cases hv : matchV p v with
      | none => rw [hv] at h; cases h
      | some a =>
        rw [hv] at h
        cases hl : matchL ps l with
        | none => rw [hl] at h; cases h
        | some b =>
          rw [hl] at h
          cases h
          simp only [fillL, List.append_assoc, fillV_match p v a (b ++ rest) hv, fillL_match ps l b rest hl]
end

theorem fillR_match (p r : Reg) (hs rest : List FV) (h : matchR p r = some hs) : fillR p (hs ++ rest) = (r, rest) := by
  cases p with
  | box l =>
    cases r <;> simp only [matchR] at h <;> first | (cases h; done) | skip
    simp only [fillR, fillL_match l _ hs rest h]
  | arr t xs =>
    cases r <;> simp only [matchR] at h <;> first | (cases h; done) | skip
    split at h
    · cases h; rfl
    · cases h
  | frz t xs =>
    cases r <;> simp only [matchR] at h <;> first | (cases h; done) | skip
    split at h
    · cases h; rfl
    · cases h
  | abs => simp [matchR] at h
  | dead => simp [matchR] at h

theorem fillRs_match : ∀ (p l : List (Nat × Reg)) (hs rest : List FV), matchRs p l = some hs → fillRs p (hs ++ rest) = l
  | [], l, hs, rest, h => by
    cases l <;> simp only [matchRs] at h <;> first | (cases h; done) | rfl
  | (i, p) :: ps, l, hs, rest, h => by
    cases l with
    | nil => simp [matchRs] at h
    | cons q l =>
      obtain ⟨j, r⟩ := q
      simp only [matchRs] at h
      cases hb : Nat.beq i j with
      | false => rw [hb] at h; cases h
      | true =>
        rw [hb] at h
        simp only [cond_true] at h
        cases hv : matchR p r with
        | none => rw [hv] at h; cases h
        | some a =>
          rw [hv] at h
          cases hl : matchRs ps l with
          | none => rw [hl] at h; cases h
          | some b =>
            rw [hl] at h
            cases h
            rw [beq_ok hb]
            simp only [fillRs, List.append_assoc, fillR_match p r a (b ++ rest) hv, fillRs_match ps l b rest hl]

theorem fillF_match {p fr : Fr} {hs : List FV} (h : matchF p fr = some hs) : fr = fillF p hs := by
  unfold matchF at h
  cases h1 : matchL p.slots fr.slots with
  | none => rw [h1] at h; cases h
  | some a =>
    rw [h1] at h
    cases h2 : matchRs p.regs fr.regs with
    | none => rw [h2] at h; cases h
    | some b =>
      rw [h2] at h
      cases h
      unfold fillF
      rw [fillL_match _ _ a b h1]
      have := fillRs_match _ _ b [] h2
      rw [List.append_nil] at this
      simp only [this]

/-- A contract: on frames of a form. -/
def genS (md : List Bool) (ret : Bool) (pat : Fr) (ts : List Tc) (ok : Tup ts → Bool) (out : Tup ts → Fr) : Spec where
  md := md
  ret := ret
  ok := fun pk => match matchF pat pk with
    | some hs => match dats ts hs with
      | some x => ok x
      | none => false
    | none => false
  fn := fun pk => match matchF pat pk with
    | some hs => match dats ts hs with
      | some x => some (out x)
      | none => none
    | none => none

theorem gen_of {P : Program} {G : (Nat → Prop) → Array Obj → Prop} {f : FuncId} {md : List Bool} {ret : Bool} {pat : Fr} {ts : List Tc} {ok : Tup ts → Bool} {out : Tup ts → Fr} (R : Fr → Fr → Prop)
    (h : ∀ x, ok x = true → R (fillF pat (undats ts x)) (out x)) : ∀ pk o, (genS md ret pat ts ok out).ok pk = true → (genS md ret pat ts ok out).fn pk = some o → R pk o := by
  intro pk o hok hout
  simp only [genS] at hok hout
  cases hm : matchF pat pk with
  | none => rw [hm] at hok; cases hok
  | some hs =>
    rw [hm] at hok hout
    simp only at hok hout
    cases hd : dats ts hs with
    | none => rw [hd] at hok; cases hok
    | some x =>
      rw [hd] at hok hout
      simp only [Option.some.injEq] at hok hout
      have e1 := fillF_match hm
      have e2 := dats_some ts hs x hd
      rw [e1, e2, ← hout]
      exact h x hok

theorem gen_sound {P : Program} (I : FnI) (hE : EnvOk P I.E) (hm : P.follows .mixedOrders = true) {f : FuncId} (hf : P.funcs[f]? = some I.fn) (hbody : I.fn.body = some I.code)
    (hn : (I.fn.name == "runtime.NumGoroutine") = false) {md : List Bool} {ret : Bool} {pat : Fr} {ts : List Tc} {ok : Tup ts → Bool} {out : Tup ts → Fr}
    (h : ∀ x, ok x = true → I.run (fillF pat (undats ts x)) = some (out x)) : Sound P I.E.gl f (genS md ret pat ts ok out) ∧ Enters P f :=
  ⟨I.sound hE hm hf hbody (gen_of (P := P) (G := I.E.gl) (f := f) (fun pk o => I.run pk = some o) h), enters_of hf hbody hn⟩

/-- Two contracts of one function. -/
def orS (s1 s2 : Spec) : Spec := ⟨s1.md, s1.ret, fun pk => s1.ok pk || s2.ok pk, fun pk => cond (s1.ok pk) (s1.fn pk) (s2.fn pk)⟩

theorem or_sound {P : Program} {G : (Nat → Prop) → Array Obj → Prop} {f : FuncId} {s1 s2 : Spec} (h1 : Sound P G f s1) (h2 : Sound P G f s2) : Sound P G f (orS s1 s2) := by
  intro pk out hok hout
  simp only [orS] at hok hout
  cases hb : s1.ok pk with
  | true => rw [hb] at hout; exact h1 pk out hb hout
  | false =>
    rw [hb] at hok hout
    exact h2 pk out (by simpa using hok) hout

theorem omap_cond {α β : Type} (q : Bool) (a b : Option α) (f : α → β) : (cond q a b).map f = cond q (a.map f) (b.map f) := by cases q <;> rfl
theorem fst_cond {α β : Type} (q : Bool) (a b : α × β) : (cond q a b).1 = cond q a.1 b.1 := by cases q <;> rfl
theorem snd_cond {α β : Type} (q : Bool) (a b : α × β) : (cond q a b).2 = cond q a.2 b.2 := by cases q <;> rfl

/-! ### what is known of a program -/
def ttOf : List (Nat × TI) → Nat → Option TI
  | [], _ => none
  | (i, t) :: l, k => cond (Nat.beq i k) (some t) (ttOf l k)

theorem ttOf_mem : ∀ (l : List (Nat × TI)) (k : Nat) (t : TI), ttOf l k = some t → (k, t) ∈ l
  | [], k, t, h => by cases h
  | (i, x) :: l, k, t, h => by
    simp only [ttOf] at h
    cases hb : Nat.beq i k with
    | true =>
      rw [hb] at h
      have := Nat.eq_of_beq_eq_true hb
      cases h; subst this; simp
    | false => rw [hb] at h; exact List.mem_cons_of_mem _ (ttOf_mem l k t h)

def Env.add (E : Env) (f : FuncId) (s : Spec) : Env := ⟨E.tt, fun g => cond (Nat.beq g f) (some s) (E.fs g), E.gl⟩

theorem env_nil {P : Program} {l : List (Nat × TI)} (h : (l.all fun p => okTI P p.1 p.2) = true) : EnvOk P ⟨ttOf l, fun _ => none, fun _ _ => True⟩ :=
  ⟨fun t ti ht => okTI_spec (List.all_eq_true.1 h _ (ttOf_mem l t ti ht)), (fun f s hs => by cases hs), fun _ _ _ _ _ _ => trivial⟩

theorem env_add {P : Program} {E : Env} (hE : EnvOk P E) {f : FuncId} {s : Spec} (h : Sound P E.gl f s ∧ Enters P f) : EnvOk P (E.add f s) :=
  ⟨hE.tts, fun g t ht => by
    simp only [Env.add] at ht
    cases hb : Nat.beq g f with
    | true =>
      rw [hb] at ht
      have := Nat.eq_of_beq_eq_true hb
      cases ht; subst this; exact h
    | false => rw [hb] at ht; exact hE.fss g t ht, hE.gm⟩

theorem env_or {P : Program} {E : Env} (hE : EnvOk P E) {f : FuncId} {s1 s2 : Spec} (h1 : E.fs f = some s1) (h : Sound P E.gl f s2 ∧ Enters P f) : EnvOk P (E.add f (orS s1 s2)) :=
  env_add hE ⟨or_sound (hE.fss f s1 h1).1 h.1, h.2⟩

end Go.Ev

set_option linter.unusedSimpArgs false
set_option linter.unusedVariables false
namespace Go.Ev
open Go

/-! ### numbers of loops -/
theorem dlt {i n : Nat} (h : i < n) : decide ((i : Int) < (n : Int)) = true := by simp; omega
theorem dlt_not {i n : Nat} (h : n ≤ i) : decide ((i : Int) < (n : Int)) = false := by simp; omega
theorem dle0 (i : Nat) : decide ((0 : Int) ≤ (i : Int)) = true := by simp
theorem wrap_in {x : Int} (h1 : -9223372036854775808 ≤ x) (h2 : x ≤ 9223372036854775807) : wrap .i64 x = x := by
  unfold wrap; rw [IntKind.wrap_i64]; omega
theorem wsucc {i : Nat} (h : i ≤ 4611686018427387904) : wrap .i64 ((i : Int) + 1) = ((i + 1 : Nat) : Int) := by
  rw [wrap_in (by omega) (by omega)]; simp
theorem wrap_range (x : Int) : -9223372036854775808 ≤ wrap .i64 x ∧ wrap .i64 x ≤ 9223372036854775807 := by
  unfold wrap; rw [IntKind.wrap_i64]; omega
theorem getN {α : Type} (xs : List α) (i : Nat) (d : α) (h : i < xs.length) : List.getD xs (Int.toNat (i : Int)) d = xs[i] := by
  rw [Int.toNat_natCast, List.getD_eq_getElem?_getD, List.getElem?_eq_getElem h]; rfl
theorem getI {α : Type} (xs : List α) (i : Int) (d : α) (h0 : 0 ≤ i) (h : i.toNat < xs.length) : List.getD xs (Int.toNat i) d = xs[i.toNat] := by
  rw [List.getD_eq_getElem?_getD, List.getElem?_eq_getElem h]; rfl
theorem dcons {α : Type} {xs : List α} {i : Nat} (h : i < xs.length) : xs.drop i = xs[i] :: xs.drop (i + 1) := List.drop_eq_getElem_cons h
theorem dnil {α : Type} {xs : List α} {i : Nat} (h : xs.length ≤ i) : xs.drop i = [] := List.drop_eq_nil_of_le h
theorem condT {α : Type} {q : Bool} {a b : α} (h : q = true) : cond q a b = a := by rw [h]; rfl
theorem condF {α : Type} {q : Bool} {a b : α} (h : q = false) : cond q a b = b := by rw [h]; rfl
/-- A condition of which both ways lead to one result. -/
theorem condB {α : Type} {q : Bool} {a b c : α} (h1 : q = true → a = c) (h2 : q = false → b = c) : cond q a b = c := by
  cases q
  · exact h2 rfl
  · exact h1 rfl

/-! ### that a run ends -/
def Ends (Q : Fr → Prop) (o : Option Fr) : Prop := ∃ f, o = some f ∧ Q f
theorem ends_some {Q : Fr → Prop} {f : Fr} (h : Q f) : Ends Q (some f) := ⟨f, rfl, h⟩
theorem ends_cond {Q : Fr → Prop} {c : Bool} {a b : Option Fr} (h1 : c = true → Ends Q a) (h2 : c = false → Ends Q b) : Ends Q (cond c a b) := by
  cases c
  · exact h2 rfl
  · exact h1 rfl
theorem ends_if {Q : Fr → Prop} {c : Bool} {a : Option Fr} (h : c = true) (h2 : Ends Q a) : Ends Q (cond c a none) := by rw [h]; exact h2
theorem ends_mono {Q R : Fr → Prop} {o : Option Fr} (h : Ends Q o) (hm : ∀ f, Q f → R f) : Ends R o := by
  obtain ⟨f, h1, h2⟩ := h
  exact ⟨f, h1, hm f h2⟩
theorem dT {p : Prop} [Decidable p] (h : p) : decide p = true := by simp [h]
theorem dF {p : Prop} [Decidable p] (h : ¬ p) : decide p = false := by simp [h]

end Go.Ev

set_option linter.unusedVariables false
set_option linter.unusedSimpArgs false
set_option maxRecDepth 100000
namespace Go.Ev.M
open Go Go.Ev

abbrev tPrgm : Tc := (.st (.pair (.slice (.st (.pair .str (.pair .str (.pair tI (.slice .str)))))) (.pair tI (.pair tI (.pair tI tI)))))
abbrev Prgm : Type := (List (Bytes × (Bytes × (Int × (List Bytes))))) × (Int × (Int × (Int × Int)))
abbrev tWindow : Tc := (.st (.pair tI tI))
abbrev Window : Type := Int × Int
abbrev tTimed : Tc := (.st (.pair .str (.st (.pair tI tI))))
abbrev Timed : Type := Bytes × (Int × Int)
abbrev tItem : Tc := (.st (.pair .str (.pair .str (.pair tI (.slice .str)))))
abbrev Item : Type := Bytes × (Bytes × (Int × (List Bytes)))
abbrev tRank : Tc := (.st (.pair tI (.pair tI (.slice .str))))
abbrev Rank : Type := Int × (Int × (List Bytes))
abbrev tAgain : Tc := (.st (.pair .str tI))
abbrev Again : Type := Bytes × Int
/-! ### the stream of numbers, and small things -/
def outside (n lo hi : Int) : Bool := decide (n < lo) || decide (n > hi)
def inR (n lo hi : Int) : Bool := decide (lo ≤ n) && decide (n ≤ hi)
def below (x n : Int) : Int := cond (decide (n < 1)) 0 (cond (decide (x.tmod n < 0)) (wrap .i64 (x.tmod n + n)) (x.tmod n))
def idxGo (x : Int) : List Int → Nat → Int
  | [], _ => -1
  | y :: l, i => cond (x == y) (i : Int) (idxGo x l (i + 1))
def indexI (l : List Int) (x : Int) : Int := idxGo x l 0
def containsI (l : List Int) (x : Int) : Bool := decide (indexI l x ≥ 0)
def mx (a b : Int) : Int := if a < b then b else a
def equalI (a b : List Int) : Bool := a == b
def atOk (k at_ : Int) : Bool := decide (0 ≤ at_) && decide (at_ + k ≤ 1099511627776)
def nextAt (at_ : Int) : Int := wrap .i64 (at_ + 1)
def rawNext (L : List Int) (at_ : Int) : Int := cond ((L.length : Int) == 0) (wrap .i64 (wrap .i64 (at_ + 1) * 7919))
  (wrap .i64 (below (L.getD (Int.toNat (Int.tmod at_ L.length)) (Tc.dflt tI)) 1073741824 + wrap .i64 (wrap .i64 (Int.tdiv at_ L.length) * wrap .i64 (7919 + Int.tmod at_ L.length))))
def next (L : List Int) (at_ n : Int) : Int := below (rawNext L at_) n
def pick (L : List Int) (at_ : Int) (l : List Int) : Int := l.getD (Int.toNat (next L at_ l.length)) (Tc.dflt tI)
def rangeAt (at_ lo hi : Int) : Int := cond (decide (hi < lo)) at_ (nextAt at_)
def rangeS (L : List Int) (at_ lo hi : Int) : Int := cond (decide (hi < lo)) lo (wrap .i64 (lo + next L at_ (wrap .i64 (wrap .i64 (hi - lo) + 1))))
def oddL (lo hi : Int) : List Int := [wrap .i64 (lo - 1), wrap .i64 (hi + 1), lo, hi, -1099511627776, 1099511627776]
def oddS (L : List Int) (at_ lo hi : Int) : Int × Int := cond (next L at_ 12 == 0) (nextAt (nextAt at_), pick L (nextAt at_) (oddL lo hi)) (rangeAt (nextAt at_) lo hi, rangeS L (nextAt at_) lo hi)
def some_ (L : List Int) (at_ : Int) (l : List Bytes) : Bytes := l.getD (Int.toNat (next L at_ l.length)) (Tc.dflt .str)
def idxBy {α : Type} (p : α → Bool) : List α → Nat → Int
  | [], _ => -1
  | x :: l, i => cond (p x) (i : Int) (idxBy p l (i + 1))
def indexB (s : Bytes) (c : Int) : Int := Lib.indexByte s c.toNat.toUInt8
def trimB (s cs : Bytes) : Bytes := Lib.trimS s cs
def trimOk (s cs : Bytes) : Bool := decide (s.length ≤ 1000000) && decide (cs.length ≤ 1000) && cs.all fun b => decide (b.toNat < 128)
def smallsB : Bytes := [97, 98, 99, 100, 101, 102, 103, 104, 105, 106, 107, 108, 109, 110, 111, 112, 113, 114, 115, 116, 117, 118, 119, 120, 121, 122]
def keyB : Bytes := [97, 98, 99, 100, 101, 102, 103, 104, 105, 106, 107, 108, 109, 110, 111, 112, 113, 114, 115, 116, 117, 118, 119, 120, 121, 122, 48, 49, 50, 51, 52, 53, 54, 55, 56, 57, 45, 95]
def isKey (s : Bytes) : Bool := !(s == []) && decide ((s.length : Int) ≤ 40) && decide (indexB smallsB ((s.getD 0 0).toNat : Int) ≥ 0) && (trimB s keyB == [])
def onlyB (s cs : Bytes) : Bool := s.all fun b => !decide (indexB cs (b.toNat : Int) < 0)
def keyR (s : Bytes) : Bool := inR (s.length : Int) 1 40 && onlyB (s.take 1) smallsB && onlyB s keyB
def notAfter (prev : Option Bytes) (p : Bytes) : Bool := match prev with
  | some q => bLess p q || p == q
  | none => false
def risingGo (key : Bytes → Bool) (prev : Option Bytes) : List Bytes → Int
  | [] => 0
  | p :: l => cond (!key p) 5 (cond (notAfter prev p) 7 (risingGo key (some p) l))
def partsF (key : Bytes → Bool) (l : List Bytes) : Int := cond ((l.length : Int) == 0) 8 (cond (decide ((l.length : Int) > 12)) 2 (risingGo key none l))
def itemsGo (key : Bytes → Bool) (pre : List Item) : List Item → Int
  | [] => 0
  | x :: l => cond (!key x.1 || !key x.2.1) 5 (cond (pre.any fun o => o.1 == x.1) 6 (cond (outside x.2.2.1 1 86400000) 1 (cond (partsF key x.2.2.2 != 0) (partsF key x.2.2.2) (itemsGo key (pre ++ [x]) l))))
def checkItems (key : Bytes → Bool) (l : List Item) : Int := cond (decide ((l.length : Int) > 60)) 2 (itemsGo key [] l)
def checkProg (key : Bytes → Bool) (p : Prgm) : Int := cond (checkItems key p.1 != 0) (checkItems key p.1)
  (cond (outside p.2.1 0 86400000 || outside p.2.2.1 0 86400000 || outside p.2.2.2.1 0 86400000 || outside p.2.2.2.2 (-1) (mx (-1) (wrap .i64 ((p.1.length : Int) - 2)))) 1 0)
def gapAt (p : Prgm) (i : Int) (x y : Item) : Int := cond (i == p.2.2.2.2) p.2.2.2.1 (cond (!(x.2.1 == y.2.1)) p.2.1 p.2.2.1)
def behindF (p : Prgm) (i : Int) : Int := gapAt p i (p.1.getD i.toNat (Tc.dflt tItem)) (p.1.getD (i + 1).toNat (Tc.dflt tItem))
def begGo (p : Prgm) : Int → Int → List Item → List Int × Int
  | _, at_, [] => ([], at_)
  | _, at_, [x] => ([at_], wrap .i64 (at_ + x.2.2.1))
  | i, at_, x :: y :: l => (at_ :: (begGo p (i + 1) (wrap .i64 (wrap .i64 (at_ + x.2.2.1) + gapAt p i x y)) (y :: l)).1, (begGo p (i + 1) (wrap .i64 (wrap .i64 (at_ + x.2.2.1) + gapAt p i x y)) (y :: l)).2)
def timGo (p : Prgm) : Int → Int → List Item → List Timed
  | _, _, [] => []
  | _, f, [x] => [(x.1, (f, wrap .i64 (f + x.2.2.1)))]
  | i, f, x :: y :: l => (x.1, (f, wrap .i64 (f + x.2.2.1))) :: timGo p (i + 1) (wrap .i64 (wrap .i64 (f + x.2.2.1) + gapAt p i x y)) (y :: l)
def ttGo (f : Int) : List Int → List Item → List Timed
  | b :: bs, x :: l => (x.1, (wrap .i64 (f + b), wrap .i64 (wrap .i64 (f + b) + x.2.2.1))) :: ttGo f bs l
  | _, _ => []
def chGo (half : Int) : Int → List Item → Int → Int
  | i, x :: y :: l, n => chGo half (i + 1) (y :: l) (cond (i != half && !(x.2.1 == y.2.1)) (wrap .i64 (n + 1)) n)
  | _, _, n => n
def isMom (n : Int) : Bool := !outside n 0 345686399999
def fromF (p : Prgm) (f : Int) : Int := cond (checkProg isKey p != 0) (checkProg isKey p) (cond (!isMom f || decide (wrap .i64 (f + (begGo p 0 0 p.1).2) > 345686400000)) 1 0)
def timetable (p : Prgm) (f : Int) : List Timed × Int := cond (fromF p f != 0) ([], fromF p f) (ttGo f (begGo p 0 0 p.1).1 p.1, 0)
def longP (p : Prgm) : Int × Int := cond (checkProg isKey p != 0) (0, checkProg isKey p) ((begGo p 0 0 p.1).2, 0)
def changes (p : Prgm) : Int × Int := cond (checkProg isKey p != 0) (0, checkProg isKey p) (chGo p.2.2.2.2 0 p.1 0, 0)
def longR (p : Prgm) : Int := match (timGo p 0 0 p.1).getLast? with
  | some t => t.2.2
  | none => 0
def beginF (p : Prgm) (f : Int) : Int := cond (!inR f 0 345686399999 || decide (wrap .i64 (f + longR p) > 345686400000)) 1 0
def firstE : List Int → Int
  | [] => 0
  | e :: l => cond (!(e == 0)) e (firstE l)
def cmpI (x y : Int) : Int := cond (decide (x < y)) (-1) (cond (decide (x > y)) 1 0)
def cmpGo : List Int → List Int → Int
  | [], [] => 0
  | [], _ :: _ => -1
  | _ :: _, [] => 1
  | x :: l, y :: m => cond (!(cmpI x y == 0)) (cmpI x y) (cmpGo l m)
def swapG {α : Type} (l : List α) (j : Nat) : List α := match l[j]?, l[j + 1]? with
  | some a, some b => (l.set (j + 1) a).set j b
  | _, _ => l
def ltG {α : Type} (lt : α → α → Bool) (l : List α) (j : Nat) : Bool := match l[j + 1]?, l[j]? with
  | some b, some a => lt b a
  | _, _ => false
def sinkG {α : Type} (lt : α → α → Bool) : Nat → List α → List α
  | 0, l => l
  | j + 1, l => cond (ltG lt l j) (sinkG lt j (swapG l j)) l
def sortGoG {α : Type} (lt : α → α → Bool) : Nat → Nat → List α → List α
  | 0, _, l => l
  | m + 1, i, l => sortGoG lt m (i + 1) (sinkG lt i l)
def sortG {α : Type} (lt : α → α → Bool) (l : List α) : List α := sortGoG lt (l.length - 1) 1 l
def bitS (set : Int) (i : Nat) : Bool := (wrap .i64 ((BitVec.ofInt (IntKind.bits .i64) (Int.fdiv set (2 ^ (min (Int.toNat (i : Int)) (IntKind.bits .i64)))) &&& BitVec.ofInt (IntKind.bits .i64) (1 : Int)).toNat : Int)) == (1 : Int)
def selI (set : Int) : List Item → Nat → List Item
  | [], _ => []
  | x :: l, i => cond (bitS set i) (x :: selI set l (i + 1)) (selI set l (i + 1))
def selP (set : Int) : List Item → Nat → List Int
  | [], _ => []
  | _ :: l, i => cond (bitS set i) ((i : Int) :: selP set l (i + 1)) (selP set l (i + 1))
def alone (p : Prgm) (its : List Item) : Prgm := (its, (p.2.1, (p.2.2.1, (p.2.2.2.1, -1))))
def fitL (p : Prgm) (its : List Item) : Int := (begGo (alone p its) 0 0 its).2
def fitB (best : List Int) (longest most : Int) (pl : List Int) (long : Int) : Bool := decide (long ≤ most) && (decide (best.length < pl.length) || (decide (pl.length = best.length) && (decide (long > longest) || (long == longest && decide (cmpGo pl best < 0)))))
def fitGo (p : Prgm) (most : Int) : Nat → Nat → List Int → Int → List Int
  | 0, _, best, _ => best
  | m + 1, set, best, longest => cond (fitB best longest most (selP set p.1 0) (fitL p (selI set p.1 0))) (fitGo p most m (set + 1) (selP set p.1 0) (fitL p (selI set p.1 0))) (fitGo p most m (set + 1) best longest)
def keyAt (xs : List Item) (i : Int) : Bytes := (xs.getD i.toNat (Tc.dflt tItem)).1
def fitR (p : Prgm) (most : Int) : List Bytes := (fitGo p most (2 ^ p.1.length) 0 [] 0).map (keyAt p.1)
def fitF (p : Prgm) (most : Int) : List Bytes × Int := cond (checkProg isKey p != 0) ([], checkProg isKey p) (cond (outside most 0 5184000000) ([], 1) (fitR p most, 0))
def lastI (p : Prgm) : Item := p.1.getD (p.1.length - 1) (Tc.dflt tItem)
def encL (p : Prgm) (x : Item) : Int := cond (!(x.2.1 == (lastI p).2.1)) (wrap .i64 (x.2.2.1 + p.2.1)) (wrap .i64 (x.2.2.1 + p.2.2.1))
def encLt (p : Prgm) (x y : Item) : Bool := decide (wrap .i64 (encL p y - encL p x) < 0)
def encR (p : Prgm) (left : Int) : List Bytes := (sortG (encLt p) (p.1.filter fun x => !decide (encL p x > left))).map fun o => o.1
def encF (p : Prgm) (left : Int) : List Bytes × Int := cond (checkProg isKey p != 0) ([], checkProg isKey p) (cond (outside left 0 86400000) ([], 1) (cond ((p.1.length : Int) == 0) ([], 8) (encR p left, 0)))
def partsOk (l : List Item) : Bool := l.all fun x => decide (x.2.2.2.length ≤ 1000)
def idxS (x : Bytes) : List Bytes → Nat → Int
  | [], _ => -1
  | y :: l, i => cond (x == y) (i : Int) (idxS x l (i + 1))
def hasS (l : List Bytes) (x : Bytes) : Bool := decide (idxS x l 0 ≥ 0)
def comF (a b : Item) : Bool := a.2.2.2.any fun o => hasS b.2.2.2 o
def pairsF (half : Int) : Int → List Item → Int → Int
  | i, x :: y :: l, n => pairsF half (i + 1) (y :: l) (cond (i != half && comF x y) (wrap .i64 (n + 1)) n)
  | _, _, n => n
def keysI (l : List Item) : List Bytes := l.map fun o => o.1
def rankF (p : Prgm) : Rank := ((begGo p 0 0 p.1).2, (pairsF p.2.2.2.2 0 p.1 0, keysI p.1))
def cmpB (a b : Bytes) : Int := cond (bLess a b) (-1) (cond (!(bLess a b || a == b)) 1 0)
def cmpS : List Bytes → List Bytes → Int
  | [], [] => 0
  | [], _ :: _ => -1
  | _ :: _, [] => 1
  | x :: l, y :: m => cond (!(cmpB x y == 0)) (cmpB x y) (cmpS l m)
def lessR (a b : Rank) : Bool := cond (a.1 != b.1) (decide (a.1 < b.1)) (cond (a.2.1 != b.2.1) (decide (a.2.1 < b.2.1)) (decide (cmpS a.2.2 b.2.2 < 0)))
def updF (r : Rank) (st : Bool × Rank) : Bool × Rank := cond (!st.1 || lessR r st.2) (true, r) st
def swapL (xs : List Item) (i j : Nat) : List Item := (xs.set i (xs.getD j (Tc.dflt tItem))).set j (xs.getD i (Tc.dflt tItem))
def ordF (c : Int × Int × Int × Int) : Nat → List Item → Nat → Bool × Rank → Bool × Rank
  | 0, xs, _, st => updF (rankF (xs, c)) st
  | m + 1, xs, i, st => (List.range' i (m + 1)).foldl (fun st j => ordF c m (swapL xs i j) (i + 1) st) st
def ordS (p : Prgm) : Bool × Rank := ordF p.2 (List.length p.1) p.1 0 (false, (0, (0, [])))
def ordR (p : Prgm) : List Bytes × Int × Int := cond (checkProg isKey p != 0) ([], (0, checkProg isKey p)) ((ordS p).2.2.2, ((ordS p).2.1, 0))
def betR (a b : Prgm) : Bool := cond (cmpGo [longR a, pairsF a.2.2.2.2 0 a.1 0] [longR b, pairsF b.2.2.2.2 0 b.1 0] != 0) (decide (cmpGo [longR a, pairsF a.2.2.2.2 0 a.1 0] [longR b, pairsF b.2.2.2.2 0 b.1 0] < 0)) (decide (cmpS (keysI a.1) (keysI b.1) < 0))
def updQ (q : Prgm) (st : Bool × Prgm) : Bool × Prgm := cond (!st.1 || betR q st.2) (true, q) st
def tryF (its : List Item) (c : Int × Int × Int × Int) : Nat → List Item → Bool × Prgm → Bool × Prgm
  | 0, l, st => updQ (l, c) st
  | m + 1, l, st => its.foldl (fun st x => cond (l.any fun o => o.1 == x.1) st (tryF its c m (l ++ [x]) st)) st
def tryS (p : Prgm) : Bool × Prgm := tryF p.1 p.2 (List.length p.1) [] (false, p)
def bestR (p : Prgm) : List Bytes × Int := (keysI (tryS p).2.1, longR (tryS p).2)
def halfD (p : Prgm) (h : Nat) : Int := mx (wrap .i64 (fitL p (p.1.take (h + 1)) - fitL p (p.1.drop (h + 1)))) (wrap .i64 (fitL p (p.1.drop (h + 1)) - fitL p (p.1.take (h + 1))))
def halfGo (p : Prgm) : Nat → Nat → Int → Int → Int × Int
  | 0, _, b, l => (b, l)
  | m + 1, h, b, l => cond (decide (b < 0)) (halfGo p m (h + 1) h (halfD p h)) (cond (decide (halfD p h < l)) (halfGo p m (h + 1) h (halfD p h)) (halfGo p m (h + 1) b l))
def halfR (p : Prgm) : Int × Int := halfGo p (p.1.length - 1) 0 (-1) 0
def halfP (p : Prgm) : Int × Int × Int := cond (checkProg isKey p != 0) (0, (0, checkProg isKey p)) (cond (decide ((p.1.length : Int) < 2)) (0, (0, 8)) ((halfR p).1, ((halfR p).2, 0)))
def itemIx (xs : List Item) (k : Bytes) : Int := idxBy (fun (o : Item) => o.1 == k) xs 0
def movGo (xs : List Item) : List Bytes → List Bytes → List Item → List Item × Int
  | _, [], acc => (acc, 0)
  | pre, k :: l, acc => cond (decide (itemIx xs k < 0)) ([], 8) (cond (hasS pre k) ([], 6) (movGo xs (pre ++ [k]) l (acc ++ [xs.getD (itemIx xs k).toNat (Tc.dflt tItem)])))
def zeroP : Prgm := ([], (0, (0, (0, 0))))
def movR (p : Prgm) (o : List Bytes) : Prgm × Int := cond ((o.length : Int) != (p.1.length : Int)) (zeroP, 3) (cond ((movGo p.1 [] o []).2 != 0) (zeroP, (movGo p.1 [] o []).2) (((movGo p.1 [] o []).1, p.2), 0))
def movP (p : Prgm) (o : List Bytes) : Prgm × Int := cond (checkProg isKey p != 0) (zeroP, checkProg isKey p) (movR p o)

def t90 (a0 : Item) (k : Bytes) : Bool := (a0.1 == k)
def t90_0 (a0 : Item) (k : Bytes) : Bool := (t90 a0 k)
def t55 (a0 : (List Item)) (a1 : Bytes) : Option (Int) := (cond (decide (List.length a0 ≤ 1000)) (some (idxBy (fun o => t90_0 o a1) a0 0)) none)
def t55_ok (a0 : (List Item)) (a1 : Bytes) : Bool := (t55 a0 a1).isSome
def t55_0 (a0 : (List Item)) (a1 : Bytes) : Int := ((t55 a0 a1).getD ((Tc.dflt tI)))
def t51 (a0 : Item) (k : Bytes) (pl : Bytes) (lg : Int) (ps : (List Bytes)) : Bool := (a0.1 == k)
def t51_0 (a0 : Item) (k : Bytes) (pl : Bytes) (lg : Int) (ps : (List Bytes)) : Bool := (t51 a0 k pl lg ps)
def t50 (a0 : (List Item)) (k : Bytes) (pl : Bytes) (lg : Int) (ps : (List Bytes)) : Option (Bool) := (cond (decide (List.length a0 ≤ 1000)) (some (decide ((idxBy (fun o => t51_0 o k pl lg ps) a0 0) ≥ (0 : Int)))) none)
def t50_ok (a0 : (List Item)) (k : Bytes) (pl : Bytes) (lg : Int) (ps : (List Bytes)) : Bool := (t50 a0 k pl lg ps).isSome
def t50_0 (a0 : (List Item)) (k : Bytes) (pl : Bytes) (lg : Int) (ps : (List Bytes)) : Bool := ((t50 a0 k pl lg ps).getD ((Tc.dflt .bool)))
def t74 (a0 : Prgm) (a1 : Item) (a2 : Item) : Int := (cond (!(a1.2.1 == a2.2.1)) a0.2.1 a0.2.2.1)
def t74_0 (a0 : Prgm) (a1 : Item) (a2 : Item) : Int := (t74 a0 a1 a2)
def t108 (a0 : Bytes) (bk : Bytes) (bp : Bytes) (bl : Int) (bps : (List Bytes)) : Option (Bool) := (cond (decide (List.length bps ≤ 1000)) (some (hasS bps a0)) none)
def t108_ok (a0 : Bytes) (bk : Bytes) (bp : Bytes) (bl : Int) (bps : (List Bytes)) : Bool := (t108 a0 bk bp bl bps).isSome
def t108_0 (a0 : Bytes) (bk : Bytes) (bp : Bytes) (bl : Int) (bps : (List Bytes)) : Bool := ((t108 a0 bk bp bl bps).getD ((Tc.dflt .bool)))
def t93 (a0 : (List Bytes)) (bk : Bytes) (bp : Bytes) (bl : Int) (bps : (List Bytes)) : Option (Bool) := (cond (decide (List.length a0 ≤ 1000) && decide (List.length bps ≤ 1000)) (some (decide ((idxBy (fun o => t108_0 o bk bp bl bps) a0 0) ≥ (0 : Int)))) none)
def t93_ok (a0 : (List Bytes)) (bk : Bytes) (bp : Bytes) (bl : Int) (bps : (List Bytes)) : Bool := (t93 a0 bk bp bl bps).isSome
def t93_0 (a0 : (List Bytes)) (bk : Bytes) (bp : Bytes) (bl : Int) (bps : (List Bytes)) : Bool := ((t93 a0 bk bp bl bps).getD ((Tc.dflt .bool)))
def t111 (a0 : Bytes) : Bool := (!(a0 == a0))
def t111_0 (a0 : Bytes) : Bool := (t111 a0)
def t62 (a0 : Prgm) (a1 : (List Item)) : Option (Int) := (cond (decide (List.length (a1, (a0.2.1, (a0.2.2.1, (a0.2.2.2.1, (-1 : Int))))).1 ≤ 1000)) (some ((begGo (a1, (a0.2.1, (a0.2.2.1, (a0.2.2.2.1, (-1 : Int))))) 0 0 (a1, (a0.2.1, (a0.2.2.1, (a0.2.2.2.1, (-1 : Int))))).1).2)) none)
def t62_ok (a0 : Prgm) (a1 : (List Item)) : Bool := (t62 a0 a1).isSome
def t62_0 (a0 : Prgm) (a1 : (List Item)) : Int := ((t62 a0 a1).getD ((Tc.dflt tI)))
def t24 (a0 : Bool) (a1 : Int) : Int := (cond a0 a1 (0 : Int))
def t24_0 (a0 : Bool) (a1 : Int) : Int := (t24 a0 a1)
def t109 (a0 : Int) : Bool := (a0 != a0)
def t109_0 (a0 : Int) : Bool := (t109 a0)
def t92 (a0 : Int) (a1 : Int) : Int := (cond (t109_0 a0) (cond (t109_0 a1) (0 : Int) (-1 : Int)) (cond (t109_0 a1) (1 : Int) (cond (decide (a0 < a1)) (-1 : Int) (cond (decide (a0 > a1)) (1 : Int) (0 : Int)))))
def t92_0 (a0 : Int) (a1 : Int) : Int := (t92 a0 a1)
def t94 (a0 : Bytes) (its : (List Item)) (c1 : Int) (c2 : Int) (c3 : Int) (c4 : Int) (i : Int) : Option (Bool) := (cond (decide ((0 : Int) ≤ (wrap .i64 (i + (1 : Int))))) (cond (decide ((wrap .i64 (i + (1 : Int))) < ((List.length its : Nat) : Int))) (cond (decide (List.length (List.getD its (Int.toNat (wrap .i64 (i + (1 : Int)))) (Tc.dflt tItem)).2.2.2 ≤ 1000)) (some (hasS (List.getD its (Int.toNat (wrap .i64 (i + (1 : Int)))) (Tc.dflt tItem)).2.2.2 a0)) none) none) none)
def t94_ok (a0 : Bytes) (its : (List Item)) (c1 : Int) (c2 : Int) (c3 : Int) (c4 : Int) (i : Int) : Bool := (t94 a0 its c1 c2 c3 c4 i).isSome
def t94_0 (a0 : Bytes) (its : (List Item)) (c1 : Int) (c2 : Int) (c3 : Int) (c4 : Int) (i : Int) : Bool := ((t94 a0 its c1 c2 c3 c4 i).getD ((Tc.dflt .bool)))
def t93a (a0 : (List Bytes)) (its : (List Item)) (c1 : Int) (c2 : Int) (c3 : Int) (c4 : Int) (i : Int) : Option (Bool) := (cond (decide (List.length a0 ≤ 1000) && decide (List.length its ≤ 1000) && partsOk its && decide (0 ≤ i) && decide (i + 1 < (List.length its : Int))) (some (decide ((idxBy (fun o => t94_0 o its c1 c2 c3 c4 i) a0 0) ≥ (0 : Int)))) none)
def t93a_ok (a0 : (List Bytes)) (its : (List Item)) (c1 : Int) (c2 : Int) (c3 : Int) (c4 : Int) (i : Int) : Bool := (t93a a0 its c1 c2 c3 c4 i).isSome
def t93a_0 (a0 : (List Bytes)) (its : (List Item)) (c1 : Int) (c2 : Int) (c3 : Int) (c4 : Int) (i : Int) : Bool := ((t93a a0 its c1 c2 c3 c4 i).getD ((Tc.dflt .bool)))
def t96 (a0 : Item) (k : Bytes) : Bool := (a0.1 == k)
def t96_0 (a0 : Item) (k : Bytes) : Bool := (t96 a0 k)
def t69 (a0 : Prgm) (a1 : Bytes) : Option (Int) := (cond (decide (List.length a0.1 ≤ 1000)) (some (idxBy (fun o => t96_0 o a1) a0.1 0)) none)
def t69_ok (a0 : Prgm) (a1 : Bytes) : Bool := (t69 a0 a1).isSome
def t69_0 (a0 : Prgm) (a1 : Bytes) : Int := ((t69 a0 a1).getD ((Tc.dflt tI)))
def t71 (a0 : Item) : Option (Item) := (cond (decide (List.length a0.2.2.2 ≤ 1000)) (some (a0.1, (a0.2.1, (a0.2.2.1, (a0.2.2.2))))) none)
def t71_ok (a0 : Item) : Bool := (t71 a0).isSome
def t71_0 (a0 : Item) : Item := ((t71 a0).getD ((Tc.dflt tItem)))
end Go.Ev.M

set_option linter.unusedVariables false
set_option linter.unusedSimpArgs false
set_option maxRecDepth 100000
namespace Go.Ev.M
open Go Go.Ev Go.Proofs

def tab : List (Nat × TI) := [
  (1, ⟨1, false, [.nilf], none, [], none, 8, false, none⟩),
  (3, ⟨1, false, [dI .i64 0], some tI, [], none, 8, true, none⟩),
  (4, ⟨1, false, [dB false], some .bool, [], none, 1, true, none⟩),
  (5, ⟨1, false, [dI .u8 0], some (.int .u8), [], none, 1, true, none⟩),
  (6, ⟨1, false, [dI .u8 0], some (.int .u8), [], none, 1, true, none⟩),
  (9, ⟨1, false, [dS []], some .str, [], none, 16, true, none⟩),
  (12, ⟨1, false, [dI .u64 0], some (.int .u64), [], none, 8, true, none⟩),
  (13, ⟨2, true, [dS [], dI .u64 0], some (.st (.pair .str (.int .u64))), [(0, 9), (1, 12)], none, 24, false, none⟩),
  (17, ⟨1, false, [.nilp], none, [], none, 8, false, some 159⟩),
  (18, ⟨1, true, [.nilp], none, [(0, 17)], none, 8, false, none⟩),
  (21, ⟨1, false, [dI .i32 0], some (.int .i32), [], none, 4, true, none⟩),
  (22, ⟨1, false, [.nil0], some (.slice tI), [], some 3, 24, false, none⟩),
  (23, ⟨1, false, [.nilp], none, [], none, 8, false, some 25⟩),
  (24, ⟨2, true, [.nil0, dI .i64 0], some (.st (.pair (.slice tI) tI)), [(0, 22), (1, 3)], none, 32, false, none⟩),
  (25, ⟨2, true, [.nil0, dI .i64 0], some (.st (.pair (.slice tI) tI)), [(0, 22), (1, 3)], none, 32, false, none⟩),
  (26, ⟨1, false, [.nil0], some (.slice tItem), [], some 63, 24, false, none⟩),
  (27, ⟨5, true, [.nil0, dI .i64 0, dI .i64 0, dI .i64 0, dI .i64 0], some tPrgm, [(0, 26), (1, 3), (2, 3), (3, 3), (4, 3)], none, 56, false, none⟩),
  (28, ⟨5, true, [.nil0, dI .i64 0, dI .i64 0, dI .i64 0, dI .i64 0], some tPrgm, [(0, 26), (1, 3), (2, 3), (3, 3), (4, 3)], none, 56, false, none⟩),
  (29, ⟨1, false, [.nilf], none, [], none, 8, false, none⟩),
  (30, ⟨1, false, [.nilf], none, [], none, 8, false, none⟩),
  (31, ⟨1, false, [.nil0], some (.slice tTimed), [], some 46, 24, false, none⟩),
  (32, ⟨1, false, [dI .i64 0], some tI, [], none, 8, true, none⟩),
  (34, ⟨1, false, [.nilf], none, [], none, 8, false, none⟩),
  (40, ⟨1, false, [.nilf], none, [], none, 8, false, none⟩),
  (41, ⟨1, false, [.nilf], none, [], none, 8, false, none⟩),
  (42, ⟨1, false, [.nilf], none, [], none, 8, false, none⟩),
  (43, ⟨2, true, [dI .i64 0, dI .i64 0], some tWindow, [(0, 3), (1, 3)], none, 16, true, none⟩),
  (44, ⟨2, true, [dI .i64 0, dI .i64 0], some tWindow, [(0, 3), (1, 3)], none, 16, true, none⟩),
  (45, ⟨3, true, [dS [], dI .i64 0, dI .i64 0], some tTimed, [(0, 9), (1, 44)], none, 32, true, none⟩),
  (46, ⟨3, true, [dS [], dI .i64 0, dI .i64 0], some tTimed, [(0, 9), (1, 44)], none, 32, true, none⟩),
  (48, ⟨1, false, [.nilf], none, [], none, 8, false, none⟩),
  (49, ⟨1, false, [.nil0], some (.slice .str), [], some 9, 24, false, none⟩),
  (51, ⟨1, false, [.nilf], none, [], none, 8, false, none⟩),
  (53, ⟨1, false, [.nilf], none, [], none, 8, false, none⟩),
  (54, ⟨1, false, [.nilf], none, [], none, 8, false, none⟩),
  (55, ⟨1, false, [.nilf], none, [], none, 8, false, none⟩),
  (57, ⟨1, false, [.nilf], none, [], none, 8, false, none⟩),
  (59, ⟨1, false, [.nilf], none, [], none, 8, false, none⟩),
  (60, ⟨1, false, [.nilf], none, [], none, 8, false, none⟩),
  (61, ⟨1, false, [.nilf], none, [], none, 8, false, none⟩),
  (62, ⟨4, true, [dS [], dS [], dI .i64 0, .nil0], some tItem, [(0, 9), (1, 9), (2, 3), (3, 49)], none, 64, false, none⟩),
  (63, ⟨4, true, [dS [], dS [], dI .i64 0, .nil0], some tItem, [(0, 9), (1, 9), (2, 3), (3, 49)], none, 64, false, none⟩),
  (64, ⟨1, false, [.nilf], none, [], none, 8, false, none⟩),
  (65, ⟨1, false, [.nilf], none, [], none, 8, false, none⟩),
  (66, ⟨1, false, [.nilf], none, [], none, 8, false, none⟩),
  (68, ⟨1, false, [.nilf], none, [], none, 8, false, none⟩),
  (69, ⟨1, false, [.nilf], none, [], none, 8, false, none⟩),
  (70, ⟨1, false, [.nilf], none, [], none, 8, false, none⟩),
  (72, ⟨1, false, [.nilf], none, [], none, 8, false, none⟩),
  (73, ⟨1, false, [.nilf], none, [], none, 8, false, none⟩),
  (74, ⟨1, false, [.nilf], none, [], none, 8, false, none⟩),
  (75, ⟨1, false, [.nilp], none, [], none, 8, false, some 63⟩),
  (81, ⟨1, false, [.nilf], none, [], none, 8, false, none⟩),
  (83, ⟨1, false, [.nilf], none, [], none, 8, false, none⟩),
  (85, ⟨1, false, [.nilf], none, [], none, 8, false, none⟩),
  (86, ⟨1, false, [.nilf], none, [], none, 8, false, none⟩),
  (87, ⟨3, true, [dI .i64 0, dI .i64 0, .nil0], some tRank, [(0, 3), (1, 3), (2, 49)], none, 40, false, none⟩),
  (88, ⟨3, true, [dI .i64 0, dI .i64 0, .nil0], some tRank, [(0, 3), (1, 3), (2, 49)], none, 40, false, none⟩),
  (89, ⟨1, false, [.nilf], none, [], none, 8, false, none⟩),
  (90, ⟨1, false, [.nilf], none, [], none, 8, false, none⟩),
  (91, ⟨1, false, [.nilf], none, [], none, 8, false, none⟩),
  (92, ⟨1, false, [.nilf], none, [], none, 8, false, none⟩),
  (93, ⟨1, false, [.nil0], some (.slice tI), [], some 32, 24, false, none⟩),
  (94, ⟨1, false, [.nilf], none, [], none, 8, false, none⟩),
  (95, ⟨1, false, [.nilf], none, [], none, 8, false, none⟩),
  (96, ⟨1, false, [.nilf], none, [], none, 8, false, none⟩),
  (97, ⟨1, false, [.nilf], none, [], none, 8, false, none⟩),
  (102, ⟨1, false, [.nilf], none, [], none, 8, false, none⟩),
  (108, ⟨1, false, [.nilf], none, [], none, 8, false, none⟩),
  (109, ⟨1, false, [.nilf], none, [], none, 8, false, none⟩),
  (110, ⟨1, false, [.nilf], none, [], none, 8, false, none⟩),
  (111, ⟨1, false, [.nilf], none, [], none, 8, false, none⟩),
  (128, ⟨1, false, [.nilp], none, [], none, 8, false, some 124⟩)]
noncomputable def En0 : Env := ⟨ttOf tab, fun _ => none, fun _ _ => True⟩
noncomputable def I83 : FnI := ⟨En0, ⟨[], [], []⟩, Tryd.f83, codeOf Tryd.f83, [.data tI], 0⟩
noncomputable def S83 : Spec := genS [true, true] false ⟨[.undef, .undef], []⟩ [tI, tI] (fun x => true) (fun x => ⟨[.dat tI (below x.1 x.2.1)], []⟩)
noncomputable def En83 : Env := En0.add 83 S83
noncomputable def I41 : FnI := ⟨En83, ⟨[], [], []⟩, Tryd.f41, codeOf Tryd.f41, [.data tI], 1⟩
noncomputable def S41 : Spec := genS [false, true] true ⟨[.ptr 0 0, .undef], [(0, .box [.undef, .undef])]⟩ [tI, (.slice tI), tI] (fun x => atOk 1 x.2.2.1) (fun x => ⟨[.dat tI (next x.2.1 x.2.2.1 x.1)], [(0, .box [.dat (.slice tI) (x.2.1), .dat tI (nextAt x.2.2.1)])]⟩)
noncomputable def En41 : Env := En83.add 41 S41
noncomputable def I29 : FnI := ⟨En41, ⟨[], [], []⟩, Tryd.f29, codeOf Tryd.f29, [.data .bool], 1⟩
noncomputable def S29 : Spec := genS [false, true] true ⟨[.ptr 0 0, .undef], [(0, .box [.undef, .undef])]⟩ [tI, (.slice tI), tI] (fun x => atOk 1 x.2.2.1) (fun x => ⟨[.dat .bool (next x.2.1 x.2.2.1 x.1 == 0)], [(0, .box [.dat (.slice tI) (x.2.1), .dat tI (nextAt x.2.2.1)])]⟩)
noncomputable def En29 : Env := En41.add 29 S29
noncomputable def I30 : FnI := ⟨En29, ⟨[], [], []⟩, Tryd.f30, codeOf Tryd.f30, [.data .str], 1⟩
noncomputable def S30 : Spec := genS [false, true] true ⟨[.ptr 0 0, .undef], [(0, .box [.undef, .undef])]⟩ [(.slice .str), (.slice tI), tI] (fun x => atOk 1 x.2.2.1 && decide (0 < List.length x.1) && decide (List.length x.1 ≤ 1000)) (fun x => ⟨[.dat .str (some_ x.2.1 x.2.2.1 x.1)], [(0, .box [.dat (.slice tI) (x.2.1), .dat tI (nextAt x.2.2.1)])]⟩)
noncomputable def En30 : Env := En29.add 30 S30
noncomputable def I35 : FnI := ⟨En30, ⟨[], [], []⟩, Tryd.f35, codeOf Tryd.f35, [.data tI], 1⟩
noncomputable def S35 : Spec := genS [false, true] true ⟨[.ptr 0 0, .undef], [(0, .box [.undef, .undef])]⟩ [(.slice tI), (.slice tI), tI] (fun x => atOk 1 x.2.2.1 && decide (0 < List.length x.1) && decide (List.length x.1 ≤ 1000)) (fun x => ⟨[.dat tI (pick x.2.1 x.2.2.1 x.1)], [(0, .box [.dat (.slice tI) (x.2.1), .dat tI (nextAt x.2.2.1)])]⟩)
noncomputable def En35 : Env := En30.add 35 S35
noncomputable def I40 : FnI := ⟨En35, ⟨[(0, [0, 4, 5, 23, 24, 25], []), (2, [0, 4, 5, 8, 23, 24, 25, 39, 40, 41], [])], [], [(20, [(0, tItem)]), (38, [(3, .str)])]⟩, Tryd.f40, codeOf Tryd.f40, [.raw], 1⟩
noncomputable def rightP (L : List Int) (at_ n : Int) : Int × List Item × Int × Int × Int × Int := Classical.epsilon fun p => (at_ ≤ p.1 ∧ p.1 ≤ at_ + 200 ∧ p.2.1.length ≤ 5 ∧ ∀ x ∈ p.2.1, x.2.2.2.length ≤ 5) ∧
  I40.run ⟨[.ptr 0 0, .dat tI n], [(0, .box [.dat (.slice tI) L, .dat tI at_])]⟩ = some ⟨[.agg [.slc 2, .dat tI p.2.2.1, .dat tI p.2.2.2.1, .dat tI p.2.2.2.2.1, .dat tI p.2.2.2.2.2]], [(0, .box [.dat (.slice tI) L, .dat tI p.1]), (2, .arr tItem p.2.1)]⟩
noncomputable def S40 : Spec := genS [false, true] true ⟨[.ptr 0 0, .undef], [(0, .box [.undef, .undef])]⟩ [tI, (.slice tI), tI] (fun x => atOk 1000 x.2.2.1 && decide (0 ≤ x.1) && decide (x.1 ≤ 5)) (fun x => ⟨[.agg [.slc 2, .dat tI ((rightP x.2.1 x.2.2.1 x.1).2.2.1), .dat tI ((rightP x.2.1 x.2.2.1 x.1).2.2.2.1), .dat tI ((rightP x.2.1 x.2.2.1 x.1).2.2.2.2.1), .dat tI ((rightP x.2.1 x.2.2.1 x.1).2.2.2.2.2)]], [(0, .box [.dat (.slice tI) (x.2.1), .dat tI ((rightP x.2.1 x.2.2.1 x.1).1)]), (2, .arr tItem ((rightP x.2.1 x.2.2.1 x.1).2.1))]⟩)
noncomputable def En40 : Env := En35.add 40 S40
noncomputable def I31 : FnI := ⟨En40, ⟨[], [], []⟩, Tryd.f31, codeOf Tryd.f31, [.data tI], 1⟩
noncomputable def S31 : Spec := genS [false, true, true] true ⟨[.ptr 0 0, .undef, .undef], [(0, .box [.undef, .undef])]⟩ [tI, tI, (.slice tI), tI] (fun x => atOk 1 x.2.2.2.1) (fun x => ⟨[.dat tI (rangeS x.2.2.1 x.2.2.2.1 x.1 x.2.1)], [(0, .box [.dat (.slice tI) (x.2.2.1), .dat tI (rangeAt x.2.2.2.1 x.1 x.2.1)])]⟩)
noncomputable def En31 : Env := En40.add 31 S31
noncomputable def I42 : FnI := ⟨En31, ⟨[], [], []⟩, Tryd.f42, codeOf Tryd.f42, [.data tI], 1⟩
noncomputable def S42 : Spec := genS [false, true, true] true ⟨[.ptr 0 0, .undef, .undef], [(0, .box [.undef, .undef])]⟩ [tI, tI, (.slice tI), tI] (fun x => atOk 8 x.2.2.2.1) (fun x => ⟨[.dat tI ((oddS x.2.2.1 x.2.2.2.1 x.1 x.2.1).2)], [(0, .box [.dat (.slice tI) (x.2.2.1), .dat tI ((oddS x.2.2.1 x.2.2.2.1 x.1 x.2.1).1)])]⟩)
noncomputable def En42 : Env := En31.add 42 S42
noncomputable def I43 : FnI := ⟨En42, ⟨[], [], []⟩, Tryd.f43, codeOf Tryd.f43, [.own .str], 0⟩
noncomputable def S43 : Spec := genS [true] false ⟨[.undef], []⟩ [(.slice .str)] (fun x => decide (List.length x.1 ≤ 1000)) (fun x => ⟨[.slc 0], [(0, .arr .str (x.1))]⟩)
noncomputable def En43 : Env := En42.add 43 S43
noncomputable def I6 : FnI := ⟨En43, ⟨[], [], []⟩, Tryd.f6, codeOf Tryd.f6, [.data tPrgm], 1⟩
noncomputable def aProg (L : List Int) (at_ n : Int) : Int × Prgm := Classical.epsilon fun p => (at_ ≤ p.1 ∧ p.1 ≤ at_ + 400 ∧ p.2.1.length ≤ 5) ∧
  I6.run ⟨[.ptr 0 0, .dat tI n], [(0, .box [.dat (.slice tI) L, .dat tI at_])]⟩ = some ⟨[.dat tPrgm p.2], [(0, .box [.dat (.slice tI) L, .dat tI p.1])]⟩
noncomputable def S6 : Spec := genS [false, true] true ⟨[.ptr 0 0, .undef], [(0, .box [.undef, .undef])]⟩ [tI, (.slice tI), tI] (fun x => atOk 2000 x.2.2.1 && x.1 == 5) (fun x => ⟨[.dat tPrgm ((aProg x.2.1 x.2.2.1 x.1).2)], [(0, .box [.dat (.slice tI) (x.2.1), .dat tI ((aProg x.2.1 x.2.2.1 x.1).1)])]⟩)
noncomputable def En6 : Env := En43.add 6 S6
noncomputable def I46 : FnI := ⟨En6, ⟨[], [], []⟩, Tryd.f46, codeOf Tryd.f46, [.data .bool], 0⟩
noncomputable def S46 : Spec := genS [true, true, true] false ⟨[.undef, .undef, .undef], []⟩ [tI, tI, tI] (fun x => true) (fun x => ⟨[.dat .bool (inR x.1 x.2.1 x.2.2.1)], []⟩)
noncomputable def En46 : Env := En6.add 46 S46
noncomputable def S86 : Spec := genS [true, true] false ⟨[.undef, .undef], []⟩ [.str, (.int .u8)] (fun x => true) (fun x => ⟨[.dat tI (indexB x.1 x.2.1)], []⟩)
noncomputable def En86 : Env := En46.add 86 S86
noncomputable def I89 : FnI := ⟨En86, ⟨[(0, [0, 1, 7, 8], [])], [], []⟩, Tryd.f89, codeOf Tryd.f89, [.data .bool], 0⟩
noncomputable def S89 : Spec := genS [true, true] false ⟨[.undef, .undef], []⟩ [.str, .str] (fun x => decide (List.length x.1 ≤ 1000000)) (fun x => ⟨[.dat .bool (onlyB x.1 x.2.1)], []⟩)
noncomputable def En89 : Env := En86.add 89 S89
noncomputable def I54 : FnI := ⟨En89, ⟨[], [], []⟩, Tryd.f54, codeOf Tryd.f54, [.data .bool], 0⟩
noncomputable def S54 : Spec := genS [true] false ⟨[.undef], []⟩ [.str] (fun x => true) (fun x => ⟨[.dat .bool (keyR x.1)], []⟩)
noncomputable def En54 : Env := En89.add 54 S54
noncomputable def I90 : FnI := ⟨En54, ⟨[], [], []⟩, Tryd.f90, codeOf Tryd.f90, [.data .bool], 1⟩
noncomputable def S90 : Spec := genS [true] true ⟨[.undef, .ptr 0 0], [(0, .box [.undef])]⟩ [tItem, .str] (fun x => true) (fun x => ⟨[.dat .bool (t90_0 x.1 x.2.1)], [(0, .box [.dat .str x.2.1])]⟩)
noncomputable def En90 : Env := En54.add 90 S90
noncomputable def I88 : FnI := ⟨En90, ⟨[(0, [0, 1, 7, 8], [])], [], []⟩, Tryd.f88, codeOf Tryd.f88, [.data tI], 1⟩
noncomputable def S88 : Spec := genS [false, false] true ⟨[.undef, .clos 90 [.ptr 0 0]], [(0, .box [.undef])]⟩ [(.slice tItem), .str] (fun x => decide (List.length x.1 ≤ 1000)) (fun x => ⟨[.dat tI (idxBy (fun o => t90_0 o x.2.1) x.1 0)], [(0, .box [.dat .str (x.2.1)])]⟩)
noncomputable def En88 : Env := En90.add 88 S88
noncomputable def I55 : FnI := ⟨En88, ⟨[], [], []⟩, Tryd.f55, codeOf Tryd.f55, [.data tI], 0⟩
noncomputable def S55 : Spec := genS [true, true] false ⟨[.undef, .undef], []⟩ [(.slice tItem), .str] (fun x => t55_ok x.1 x.2.1) (fun x => ⟨[.dat tI (t55_0 x.1 x.2.1)], []⟩)
noncomputable def En55 : Env := En88.add 55 S55
noncomputable def I56 : FnI := ⟨En55, ⟨[(0, [0, 5, 6, 7], [])], [], []⟩, Tryd.f56, codeOf Tryd.f56, [.data tI], 0⟩
noncomputable def S56 : Spec := genS [true] false ⟨[.undef], []⟩ [(.slice .str)] (fun x => decide (List.length x.1 ≤ 1000)) (fun x => ⟨[.dat tI (risingGo keyR none x.1)], []⟩)
noncomputable def En56 : Env := En55.add 56 S56
noncomputable def I17 : FnI := ⟨En56, ⟨[(0, [0, 9, 10, 11], [])], [], []⟩, Tryd.f17, codeOf Tryd.f17, [.data tI], 0⟩
noncomputable def S17 : Spec := genS [true] false ⟨[.undef], []⟩ [(.slice tItem)] (fun x => true) (fun x => ⟨[.dat tI (checkItems keyR x.1)], []⟩)
noncomputable def En17 : Env := En56.add 17 S17
noncomputable def I11 : FnI := ⟨En17, ⟨[], [], []⟩, Tryd.f11, codeOf Tryd.f11, [.data tI], 0⟩
noncomputable def S11 : Spec := genS [true] false ⟨[.undef], []⟩ [tPrgm] (fun x => true) (fun x => ⟨[.dat tI (checkProg keyR x.1)], []⟩)
noncomputable def En11 : Env := En17.add 11 S11
noncomputable def I51 : FnI := ⟨En11, ⟨[], [], []⟩, Tryd.f51, codeOf Tryd.f51, [.data .bool], 1⟩
noncomputable def S51 : Spec := genS [true] true ⟨[.undef, .ptr 0 0], [(0, .box [.undef, .undef, .undef, .undef])]⟩ [tItem, .str, .str, tI, (.slice .str)] (fun x => true) (fun x => ⟨[.dat .bool (t51_0 x.1 x.2.1 x.2.2.1 x.2.2.2.1 x.2.2.2.2.1)], [(0, .box [.dat .str x.2.1, .dat .str x.2.2.1, .dat tI x.2.2.2.1, .dat (.slice .str) x.2.2.2.2.1])]⟩)
noncomputable def En51 : Env := En11.add 51 S51
noncomputable def I88a : FnI := ⟨En51, ⟨[(0, [0, 1, 7, 8], [])], [], []⟩, Tryd.f88, codeOf Tryd.f88, [.data tI], 1⟩
noncomputable def S88a : Spec := genS [false, false] true ⟨[.undef, .clos 51 [.ptr 0 0]], [(0, .box [.undef, .undef, .undef, .undef])]⟩ [(.slice tItem), .str, .str, tI, (.slice .str)] (fun x => decide (List.length x.1 ≤ 1000)) (fun x => ⟨[.dat tI (idxBy (fun o => t51_0 o x.2.1 x.2.2.1 x.2.2.2.1 x.2.2.2.2.1) x.1 0)], [(0, .box [.dat .str (x.2.1), .dat .str (x.2.2.1), .dat tI (x.2.2.2.1), .dat (.slice .str) (x.2.2.2.2.1)])]⟩)
noncomputable def SS88a : Spec := orS S88 S88a
noncomputable def En88a : Env := En51.add 88 SS88a
noncomputable def I50 : FnI := ⟨En88a, ⟨[], [], []⟩, Tryd.f50, codeOf Tryd.f50, [.data .bool], 1⟩
noncomputable def S50 : Spec := genS [true, false] true ⟨[.undef, .clos 51 [.ptr 0 0]], [(0, .box [.undef, .undef, .undef, .undef])]⟩ [(.slice tItem), .str, .str, tI, (.slice .str)] (fun x => t50_ok x.1 x.2.1 x.2.2.1 x.2.2.2.1 x.2.2.2.2.1) (fun x => ⟨[.dat .bool (t50_0 x.1 x.2.1 x.2.2.1 x.2.2.2.1 x.2.2.2.2.1)], [(0, .box [.dat .str x.2.1, .dat .str x.2.2.1, .dat tI x.2.2.2.1, .dat (.slice .str) x.2.2.2.2.1])]⟩)
noncomputable def En50 : Env := En88a.add 50 S50
noncomputable def S87 : Spec := genS [true, true] false ⟨[.undef, .undef], []⟩ [.str, .str] (fun x => trimOk x.1 x.2.1) (fun x => ⟨[.dat .str (trimB x.1 x.2.1)], []⟩)
noncomputable def En87 : Env := En50.add 87 S87
noncomputable def I49 : FnI := ⟨En87, ⟨[], [], []⟩, Tryd.f49, codeOf Tryd.f49, [.data .bool], 0⟩
noncomputable def S49 : Spec := genS [true] false ⟨[.undef], []⟩ [.str] (fun x => true) (fun x => ⟨[.dat .bool (isKey x.1)], []⟩)
noncomputable def En49 : Env := En87.add 49 S49
noncomputable def I52 : FnI := ⟨En49, ⟨[], [], []⟩, Tryd.f52, codeOf Tryd.f52, [.data .bool], 0⟩
noncomputable def S52 : Spec := genS [true, true, true] false ⟨[.undef, .undef, .undef], []⟩ [tI, tI, tI] (fun x => true) (fun x => ⟨[.dat .bool (outside x.1 x.2.1 x.2.2.1)], []⟩)
noncomputable def En52 : Env := En49.add 52 S52
noncomputable def I53 : FnI := ⟨En52, ⟨[(0, [0, 11, 12, 13], [])], [], []⟩, Tryd.f53, codeOf Tryd.f53, [.data tI], 0⟩
noncomputable def S53 : Spec := genS [true] false ⟨[.undef], []⟩ [(.slice .str)] (fun x => true) (fun x => ⟨[.dat tI (partsF isKey x.1)], []⟩)
noncomputable def En53 : Env := En52.add 53 S53
noncomputable def I16 : FnI := ⟨En53, ⟨[(0, [0, 9, 10, 11], [])], [], []⟩, Tryd.f16, codeOf Tryd.f16, [.data tI], 0⟩
noncomputable def S16 : Spec := genS [true] false ⟨[.undef], []⟩ [(.slice tItem)] (fun x => true) (fun x => ⟨[.dat tI (checkItems isKey x.1)], []⟩)
noncomputable def En16 : Env := En53.add 16 S16
noncomputable def I18 : FnI := ⟨En16, ⟨[], [], []⟩, Tryd.f18, codeOf Tryd.f18, [.data tI], 0⟩
noncomputable def S18 : Spec := genS [true] false ⟨[.undef], []⟩ [tPrgm] (fun x => true) (fun x => ⟨[.dat tI (checkProg isKey x.1)], []⟩)
noncomputable def En18 : Env := En16.add 18 S18
noncomputable def I74 : FnI := ⟨En18, ⟨[], [], []⟩, Tryd.f74, codeOf Tryd.f74, [.data tI], 0⟩
noncomputable def S74 : Spec := genS [true, true, true] false ⟨[.undef, .undef, .undef], []⟩ [tPrgm, tItem, tItem] (fun x => true) (fun x => ⟨[.dat tI (t74_0 x.1 x.2.1 x.2.2.1)], []⟩)
noncomputable def En74 : Env := En18.add 74 S74
noncomputable def I85 : FnI := ⟨En74, ⟨[], [], []⟩, Tryd.f85, codeOf Tryd.f85, [.data tI], 0⟩
noncomputable def S85 : Spec := genS [true, true] false ⟨[.undef, .undef], []⟩ [tPrgm, tI] (fun x => decide (0 ≤ x.2.1) && decide (x.2.1 + 1 < (List.length x.1.1 : Int)) && decide (List.length x.1.1 ≤ 1000)) (fun x => ⟨[.dat tI (behindF x.1 x.2.1)], []⟩)
noncomputable def En85 : Env := En74.add 85 S85
noncomputable def I45 : FnI := ⟨En85, ⟨[(0, [1, 4, 5, 9, 10, 11], [(4, tI)])], [], []⟩, Tryd.f45, codeOf Tryd.f45, [.own tI, .data tI], 0⟩
noncomputable def S45 : Spec := genS [true] false ⟨[.undef], []⟩ [tPrgm] (fun x => decide (List.length x.1.1 ≤ 1000)) (fun x => ⟨[.slc 0, .dat tI ((begGo x.1 0 0 x.1.1).2)], [(0, .arr tI ((begGo x.1 0 0 x.1.1).1))]⟩)
noncomputable def En45 : Env := En85.add 45 S45
noncomputable def I9 : FnI := ⟨En45, ⟨[], [], []⟩, Tryd.f9, codeOf Tryd.f9, [.data tI, .data tI], 0⟩
noncomputable def S9 : Spec := genS [true] false ⟨[.undef], []⟩ [tPrgm] (fun x => true) (fun x => ⟨[.dat tI ((longP x.1).1), .dat tI ((longP x.1).2)], []⟩)
noncomputable def En9 : Env := En45.add 9 S9
noncomputable def I20 : FnI := ⟨En9, ⟨[], [], []⟩, Tryd.f20, codeOf Tryd.f20, [.data .bool], 0⟩
noncomputable def S20 : Spec := genS [] false ⟨[], []⟩ [] (fun x => true) (fun x => ⟨[.dat .bool true], []⟩)
noncomputable def En20 : Env := En9.add 20 S20
noncomputable def I97 : FnI := ⟨En20, ⟨[(0, [0, 1, 7, 8], [])], [], []⟩, Tryd.f97, codeOf Tryd.f97, [.data tI], 0⟩
noncomputable def S97 : Spec := genS [true, true] false ⟨[.undef, .undef], []⟩ [(.slice .str), .str] (fun x => decide (List.length x.1 ≤ 1000)) (fun x => ⟨[.dat tI (idxS x.2.1 x.1 0)], []⟩)
noncomputable def En97 : Env := En20.add 97 S97
noncomputable def I70 : FnI := ⟨En97, ⟨[], [], []⟩, Tryd.f70, codeOf Tryd.f70, [.data .bool], 0⟩
noncomputable def S70 : Spec := genS [true, true] false ⟨[.undef, .undef], []⟩ [(.slice .str), .str] (fun x => decide (List.length x.1 ≤ 1000)) (fun x => ⟨[.dat .bool (hasS x.1 x.2.1)], []⟩)
noncomputable def En70 : Env := En97.add 70 S70
noncomputable def I108 : FnI := ⟨En70, ⟨[], [], []⟩, Tryd.f108, codeOf Tryd.f108, [.data .bool], 1⟩
noncomputable def S108 : Spec := genS [true] true ⟨[.undef, .ptr 0 0], [(0, .box [.undef, .undef, .undef, .undef])]⟩ [.str, .str, .str, tI, (.slice .str)] (fun x => t108_ok x.1 x.2.1 x.2.2.1 x.2.2.2.1 x.2.2.2.2.1) (fun x => ⟨[.dat .bool (t108_0 x.1 x.2.1 x.2.2.1 x.2.2.2.1 x.2.2.2.2.1)], [(0, .box [.dat .str x.2.1, .dat .str x.2.2.1, .dat tI x.2.2.2.1, .dat (.slice .str) x.2.2.2.2.1])]⟩)
noncomputable def En108 : Env := En70.add 108 S108
noncomputable def I110 : FnI := ⟨En108, ⟨[(0, [0, 1, 7, 8], [])], [], []⟩, Tryd.f110, codeOf Tryd.f110, [.data tI], 1⟩
noncomputable def S110 : Spec := genS [true, false] true ⟨[.undef, .clos 108 [.ptr 0 0]], [(0, .box [.undef, .undef, .undef, .undef])]⟩ [(.slice .str), .str, .str, tI, (.slice .str)] (fun x => decide (List.length x.1 ≤ 1000) && decide (List.length x.2.2.2.2.1 ≤ 1000)) (fun x => ⟨[.dat tI (idxBy (fun o => t108_0 o x.2.1 x.2.2.1 x.2.2.2.1 x.2.2.2.2.1) x.1 0)], [(0, .box [.dat .str (x.2.1), .dat .str (x.2.2.1), .dat tI (x.2.2.2.1), .dat (.slice .str) (x.2.2.2.2.1)])]⟩)
noncomputable def En110 : Env := En108.add 110 S110
noncomputable def I93 : FnI := ⟨En110, ⟨[], [], []⟩, Tryd.f93, codeOf Tryd.f93, [.data .bool], 1⟩
noncomputable def S93 : Spec := genS [true, false] true ⟨[.undef, .clos 108 [.ptr 0 0]], [(0, .box [.undef, .undef, .undef, .undef])]⟩ [(.slice .str), .str, .str, tI, (.slice .str)] (fun x => t93_ok x.1 x.2.1 x.2.2.1 x.2.2.2.1 x.2.2.2.2.1) (fun x => ⟨[.dat .bool (t93_0 x.1 x.2.1 x.2.2.1 x.2.2.2.1 x.2.2.2.2.1)], [(0, .box [.dat .str x.2.1, .dat .str x.2.2.1, .dat tI x.2.2.2.1, .dat (.slice .str) x.2.2.2.2.1])]⟩)
noncomputable def En93 : Env := En110.add 93 S93
noncomputable def I91 : FnI := ⟨En93, ⟨[], [], []⟩, Tryd.f91, codeOf Tryd.f91, [.data .bool], 0⟩
noncomputable def S91 : Spec := genS [true, true] false ⟨[.undef, .undef], []⟩ [tItem, tItem] (fun x => decide (List.length x.1.2.2.2 ≤ 1000) && decide (List.length x.2.1.2.2.2 ≤ 1000)) (fun x => ⟨[.dat .bool (comF x.1 x.2.1)], []⟩)
noncomputable def En91 : Env := En93.add 91 S91
noncomputable def I60 : FnI := ⟨En91, ⟨[(0, [1, 2, 3, 13, 14, 15], [])], [], [(1, [(0, tItem)]), (2, [(2, .str)]), (3, [(2, .str)]), (5, [(3, .str)])]⟩, Tryd.f60, codeOf Tryd.f60, [.raw], 0⟩
noncomputable def S60 : Spec := genS [true] false ⟨[.undef], []⟩ [tPrgm] (fun x => decide (List.length x.1.1 ≤ 1000) && partsOk x.1.1) (fun x => ⟨[.agg [.dat tI (rankF x.1).1, .dat tI (rankF x.1).2.1, .slc 0]], [(0, .arr .str ((rankF x.1).2.2))]⟩)
noncomputable def En60 : Env := En91.add 60 S60
noncomputable def I111 : FnI := ⟨En60, ⟨[], [], []⟩, Tryd.f111, codeOf Tryd.f111, [.data .bool], 0⟩
noncomputable def S111 : Spec := genS [true] false ⟨[.undef], []⟩ [.str] (fun x => true) (fun x => ⟨[.dat .bool (t111_0 x.1)], []⟩)
noncomputable def En111 : Env := En60.add 111 S111
noncomputable def I95 : FnI := ⟨En111, ⟨[], [], []⟩, Tryd.f95, codeOf Tryd.f95, [.data tI], 0⟩
noncomputable def S95 : Spec := genS [true, true] false ⟨[.undef, .undef], []⟩ [.str, .str] (fun x => true) (fun x => ⟨[.dat tI (cmpB x.1 x.2.1)], []⟩)
noncomputable def En95 : Env := En111.add 95 S95
noncomputable def I66 : FnI := ⟨En95, ⟨[(0, [0, 1, 9, 10, 11], [])], [], []⟩, Tryd.f66, codeOf Tryd.f66, [.data tI], 0⟩
noncomputable def S66 : Spec := genS [true, true] false ⟨[.undef, .undef], []⟩ [(.slice .str), (.slice .str)] (fun x => decide (List.length x.1 ≤ 1000)) (fun x => ⟨[.dat tI (cmpS x.1 x.2.1)], []⟩)
noncomputable def En66 : Env := En95.add 66 S66
noncomputable def I61 : FnI := ⟨En66, ⟨[], [], []⟩, Tryd.f61, codeOf Tryd.f61, [.data .bool], 0⟩
noncomputable def S61 : Spec := genS [true, true] false ⟨[.undef, .undef], []⟩ [tRank, tRank] (fun x => decide (List.length x.1.2.2 ≤ 1000)) (fun x => ⟨[.dat .bool (lessR x.1 x.2.1)], []⟩)
noncomputable def En61 : Env := En66.add 61 S61
noncomputable def I59 : FnI := ⟨En61, ⟨[], [200013], []⟩, Tryd.f59, codeOf Tryd.f59, [], 4⟩
noncomputable def S59 : Spec := genS [] true ⟨[.ptr 0 0, .ptr 1 0, .ptr 2 0], [(0, .box [.slc 3, .undef, .undef, .undef, .undef]), (1, .box [.undef]), (2, .box [.undef, .undef, .undef]), (3, .arr tItem [])]⟩ [tI, tI, tI, tI, .bool, tI, tI, (.slice .str), (.slice tItem)] (fun x => decide (List.length x.2.2.2.2.2.2.2.2.1 ≤ 1000) && partsOk x.2.2.2.2.2.2.2.2.1) (fun x => ⟨[], [(0, .box [.slc 3, .dat tI (x.1), .dat tI (x.2.1), .dat tI (x.2.2.1), .dat tI (x.2.2.2.1)]), (1, .box [.dat .bool ((updF (rankF (x.2.2.2.2.2.2.2.2.1, (x.1, (x.2.1, (x.2.2.1, x.2.2.2.1))))) (x.2.2.2.2.1, (x.2.2.2.2.2.1, (x.2.2.2.2.2.2.1, x.2.2.2.2.2.2.2.1)))).1)]), (2, .box [.dat tI ((updF (rankF (x.2.2.2.2.2.2.2.2.1, (x.1, (x.2.1, (x.2.2.1, x.2.2.2.1))))) (x.2.2.2.2.1, (x.2.2.2.2.2.1, (x.2.2.2.2.2.2.1, x.2.2.2.2.2.2.2.1)))).2.1), .dat tI ((updF (rankF (x.2.2.2.2.2.2.2.2.1, (x.1, (x.2.1, (x.2.2.1, x.2.2.2.1))))) (x.2.2.2.2.1, (x.2.2.2.2.2.1, (x.2.2.2.2.2.2.1, x.2.2.2.2.2.2.2.1)))).2.2.1), .dat (.slice .str) ((updF (rankF (x.2.2.2.2.2.2.2.2.1, (x.1, (x.2.1, (x.2.2.1, x.2.2.2.1))))) (x.2.2.2.2.1, (x.2.2.2.2.2.1, (x.2.2.2.2.2.2.1, x.2.2.2.2.2.2.2.1)))).2.2.2)]), (3, .arr tItem (x.2.2.2.2.2.2.2.2.1))]⟩)
noncomputable def En59 : Env := En61.add 59 S59
noncomputable def I58 : FnI := ⟨En59, ⟨[(0, [0, 1, 2, 6], [])], [], []⟩, Tryd.f58, codeOf Tryd.f58, [], 4⟩
noncomputable def S58 : Spec := genS [false, true, false] true ⟨[.slc 0, .undef, .clos 59 [.ptr 1 0, .ptr 2 0, .ptr 3 0]], [(0, .arr tItem []), (1, .box [.slc 0, .undef, .undef, .undef, .undef]), (2, .box [.undef]), (3, .box [.undef, .undef, .undef])]⟩ [tI, (.slice tItem), tI, tI, tI, tI, .bool, tI, tI, (.slice .str)] (fun x => decide (0 ≤ x.1) && decide (x.1 ≤ (List.length x.2.1 : Int)) && decide ((List.length x.2.1 : Int) - x.1 ≤ 0) && partsOk x.2.1 && decide (List.length x.2.1 ≤ 5)) (fun x => ⟨[], [(0, .arr tItem (x.2.1)), (1, .box [.slc 0, .dat tI (x.2.2.1), .dat tI (x.2.2.2.1), .dat tI (x.2.2.2.2.1), .dat tI (x.2.2.2.2.2.1)]), (2, .box [.dat .bool ((ordF (x.2.2.1, (x.2.2.2.1, (x.2.2.2.2.1, x.2.2.2.2.2.1))) (List.length x.2.1 - Int.toNat x.1) x.2.1 (Int.toNat x.1) (x.2.2.2.2.2.2.1, (x.2.2.2.2.2.2.2.1, (x.2.2.2.2.2.2.2.2.1, x.2.2.2.2.2.2.2.2.2.1)))).1)]), (3, .box [.dat tI ((ordF (x.2.2.1, (x.2.2.2.1, (x.2.2.2.2.1, x.2.2.2.2.2.1))) (List.length x.2.1 - Int.toNat x.1) x.2.1 (Int.toNat x.1) (x.2.2.2.2.2.2.1, (x.2.2.2.2.2.2.2.1, (x.2.2.2.2.2.2.2.2.1, x.2.2.2.2.2.2.2.2.2.1)))).2.1), .dat tI ((ordF (x.2.2.1, (x.2.2.2.1, (x.2.2.2.2.1, x.2.2.2.2.2.1))) (List.length x.2.1 - Int.toNat x.1) x.2.1 (Int.toNat x.1) (x.2.2.2.2.2.2.1, (x.2.2.2.2.2.2.2.1, (x.2.2.2.2.2.2.2.2.1, x.2.2.2.2.2.2.2.2.2.1)))).2.2.1), .dat (.slice .str) ((ordF (x.2.2.1, (x.2.2.2.1, (x.2.2.2.2.1, x.2.2.2.2.2.1))) (List.length x.2.1 - Int.toNat x.1) x.2.1 (Int.toNat x.1) (x.2.2.2.2.2.2.1, (x.2.2.2.2.2.2.2.1, (x.2.2.2.2.2.2.2.2.1, x.2.2.2.2.2.2.2.2.2.1)))).2.2.2)])]⟩)
noncomputable def En58 : Env := En59.add 58 S58
noncomputable def I58a : FnI := ⟨En58, ⟨[(0, [0, 1, 2, 6], [])], [], []⟩, Tryd.f58, codeOf Tryd.f58, [], 4⟩
noncomputable def S58a : Spec := genS [false, true, false] true ⟨[.slc 0, .undef, .clos 59 [.ptr 1 0, .ptr 2 0, .ptr 3 0]], [(0, .arr tItem []), (1, .box [.slc 0, .undef, .undef, .undef, .undef]), (2, .box [.undef]), (3, .box [.undef, .undef, .undef])]⟩ [tI, (.slice tItem), tI, tI, tI, tI, .bool, tI, tI, (.slice .str)] (fun x => decide (0 ≤ x.1) && decide (x.1 ≤ (List.length x.2.1 : Int)) && decide ((List.length x.2.1 : Int) - x.1 ≤ 1) && partsOk x.2.1 && decide (List.length x.2.1 ≤ 5)) (fun x => ⟨[], [(0, .arr tItem (x.2.1)), (1, .box [.slc 0, .dat tI (x.2.2.1), .dat tI (x.2.2.2.1), .dat tI (x.2.2.2.2.1), .dat tI (x.2.2.2.2.2.1)]), (2, .box [.dat .bool ((ordF (x.2.2.1, (x.2.2.2.1, (x.2.2.2.2.1, x.2.2.2.2.2.1))) (List.length x.2.1 - Int.toNat x.1) x.2.1 (Int.toNat x.1) (x.2.2.2.2.2.2.1, (x.2.2.2.2.2.2.2.1, (x.2.2.2.2.2.2.2.2.1, x.2.2.2.2.2.2.2.2.2.1)))).1)]), (3, .box [.dat tI ((ordF (x.2.2.1, (x.2.2.2.1, (x.2.2.2.2.1, x.2.2.2.2.2.1))) (List.length x.2.1 - Int.toNat x.1) x.2.1 (Int.toNat x.1) (x.2.2.2.2.2.2.1, (x.2.2.2.2.2.2.2.1, (x.2.2.2.2.2.2.2.2.1, x.2.2.2.2.2.2.2.2.2.1)))).2.1), .dat tI ((ordF (x.2.2.1, (x.2.2.2.1, (x.2.2.2.2.1, x.2.2.2.2.2.1))) (List.length x.2.1 - Int.toNat x.1) x.2.1 (Int.toNat x.1) (x.2.2.2.2.2.2.1, (x.2.2.2.2.2.2.2.1, (x.2.2.2.2.2.2.2.2.1, x.2.2.2.2.2.2.2.2.2.1)))).2.2.1), .dat (.slice .str) ((ordF (x.2.2.1, (x.2.2.2.1, (x.2.2.2.2.1, x.2.2.2.2.2.1))) (List.length x.2.1 - Int.toNat x.1) x.2.1 (Int.toNat x.1) (x.2.2.2.2.2.2.1, (x.2.2.2.2.2.2.2.1, (x.2.2.2.2.2.2.2.2.1, x.2.2.2.2.2.2.2.2.2.1)))).2.2.2)])]⟩)
noncomputable def En58a : Env := En58.add 58 S58a
noncomputable def I58b : FnI := ⟨En58a, ⟨[(0, [0, 1, 2, 6], [])], [], []⟩, Tryd.f58, codeOf Tryd.f58, [], 4⟩
noncomputable def S58b : Spec := genS [false, true, false] true ⟨[.slc 0, .undef, .clos 59 [.ptr 1 0, .ptr 2 0, .ptr 3 0]], [(0, .arr tItem []), (1, .box [.slc 0, .undef, .undef, .undef, .undef]), (2, .box [.undef]), (3, .box [.undef, .undef, .undef])]⟩ [tI, (.slice tItem), tI, tI, tI, tI, .bool, tI, tI, (.slice .str)] (fun x => decide (0 ≤ x.1) && decide (x.1 ≤ (List.length x.2.1 : Int)) && decide ((List.length x.2.1 : Int) - x.1 ≤ 2) && partsOk x.2.1 && decide (List.length x.2.1 ≤ 5)) (fun x => ⟨[], [(0, .arr tItem (x.2.1)), (1, .box [.slc 0, .dat tI (x.2.2.1), .dat tI (x.2.2.2.1), .dat tI (x.2.2.2.2.1), .dat tI (x.2.2.2.2.2.1)]), (2, .box [.dat .bool ((ordF (x.2.2.1, (x.2.2.2.1, (x.2.2.2.2.1, x.2.2.2.2.2.1))) (List.length x.2.1 - Int.toNat x.1) x.2.1 (Int.toNat x.1) (x.2.2.2.2.2.2.1, (x.2.2.2.2.2.2.2.1, (x.2.2.2.2.2.2.2.2.1, x.2.2.2.2.2.2.2.2.2.1)))).1)]), (3, .box [.dat tI ((ordF (x.2.2.1, (x.2.2.2.1, (x.2.2.2.2.1, x.2.2.2.2.2.1))) (List.length x.2.1 - Int.toNat x.1) x.2.1 (Int.toNat x.1) (x.2.2.2.2.2.2.1, (x.2.2.2.2.2.2.2.1, (x.2.2.2.2.2.2.2.2.1, x.2.2.2.2.2.2.2.2.2.1)))).2.1), .dat tI ((ordF (x.2.2.1, (x.2.2.2.1, (x.2.2.2.2.1, x.2.2.2.2.2.1))) (List.length x.2.1 - Int.toNat x.1) x.2.1 (Int.toNat x.1) (x.2.2.2.2.2.2.1, (x.2.2.2.2.2.2.2.1, (x.2.2.2.2.2.2.2.2.1, x.2.2.2.2.2.2.2.2.2.1)))).2.2.1), .dat (.slice .str) ((ordF (x.2.2.1, (x.2.2.2.1, (x.2.2.2.2.1, x.2.2.2.2.2.1))) (List.length x.2.1 - Int.toNat x.1) x.2.1 (Int.toNat x.1) (x.2.2.2.2.2.2.1, (x.2.2.2.2.2.2.2.1, (x.2.2.2.2.2.2.2.2.1, x.2.2.2.2.2.2.2.2.2.1)))).2.2.2)])]⟩)
noncomputable def En58b : Env := En58a.add 58 S58b
noncomputable def I58c : FnI := ⟨En58b, ⟨[(0, [0, 1, 2, 6], [])], [], []⟩, Tryd.f58, codeOf Tryd.f58, [], 4⟩
noncomputable def S58c : Spec := genS [false, true, false] true ⟨[.slc 0, .undef, .clos 59 [.ptr 1 0, .ptr 2 0, .ptr 3 0]], [(0, .arr tItem []), (1, .box [.slc 0, .undef, .undef, .undef, .undef]), (2, .box [.undef]), (3, .box [.undef, .undef, .undef])]⟩ [tI, (.slice tItem), tI, tI, tI, tI, .bool, tI, tI, (.slice .str)] (fun x => decide (0 ≤ x.1) && decide (x.1 ≤ (List.length x.2.1 : Int)) && decide ((List.length x.2.1 : Int) - x.1 ≤ 3) && partsOk x.2.1 && decide (List.length x.2.1 ≤ 5)) (fun x => ⟨[], [(0, .arr tItem (x.2.1)), (1, .box [.slc 0, .dat tI (x.2.2.1), .dat tI (x.2.2.2.1), .dat tI (x.2.2.2.2.1), .dat tI (x.2.2.2.2.2.1)]), (2, .box [.dat .bool ((ordF (x.2.2.1, (x.2.2.2.1, (x.2.2.2.2.1, x.2.2.2.2.2.1))) (List.length x.2.1 - Int.toNat x.1) x.2.1 (Int.toNat x.1) (x.2.2.2.2.2.2.1, (x.2.2.2.2.2.2.2.1, (x.2.2.2.2.2.2.2.2.1, x.2.2.2.2.2.2.2.2.2.1)))).1)]), (3, .box [.dat tI ((ordF (x.2.2.1, (x.2.2.2.1, (x.2.2.2.2.1, x.2.2.2.2.2.1))) (List.length x.2.1 - Int.toNat x.1) x.2.1 (Int.toNat x.1) (x.2.2.2.2.2.2.1, (x.2.2.2.2.2.2.2.1, (x.2.2.2.2.2.2.2.2.1, x.2.2.2.2.2.2.2.2.2.1)))).2.1), .dat tI ((ordF (x.2.2.1, (x.2.2.2.1, (x.2.2.2.2.1, x.2.2.2.2.2.1))) (List.length x.2.1 - Int.toNat x.1) x.2.1 (Int.toNat x.1) (x.2.2.2.2.2.2.1, (x.2.2.2.2.2.2.2.1, (x.2.2.2.2.2.2.2.2.1, x.2.2.2.2.2.2.2.2.2.1)))).2.2.1), .dat (.slice .str) ((ordF (x.2.2.1, (x.2.2.2.1, (x.2.2.2.2.1, x.2.2.2.2.2.1))) (List.length x.2.1 - Int.toNat x.1) x.2.1 (Int.toNat x.1) (x.2.2.2.2.2.2.1, (x.2.2.2.2.2.2.2.1, (x.2.2.2.2.2.2.2.2.1, x.2.2.2.2.2.2.2.2.2.1)))).2.2.2)])]⟩)
noncomputable def En58c : Env := En58b.add 58 S58c
noncomputable def I58d : FnI := ⟨En58c, ⟨[(0, [0, 1, 2, 6], [])], [], []⟩, Tryd.f58, codeOf Tryd.f58, [], 4⟩
noncomputable def S58d : Spec := genS [false, true, false] true ⟨[.slc 0, .undef, .clos 59 [.ptr 1 0, .ptr 2 0, .ptr 3 0]], [(0, .arr tItem []), (1, .box [.slc 0, .undef, .undef, .undef, .undef]), (2, .box [.undef]), (3, .box [.undef, .undef, .undef])]⟩ [tI, (.slice tItem), tI, tI, tI, tI, .bool, tI, tI, (.slice .str)] (fun x => decide (0 ≤ x.1) && decide (x.1 ≤ (List.length x.2.1 : Int)) && decide ((List.length x.2.1 : Int) - x.1 ≤ 4) && partsOk x.2.1 && decide (List.length x.2.1 ≤ 5)) (fun x => ⟨[], [(0, .arr tItem (x.2.1)), (1, .box [.slc 0, .dat tI (x.2.2.1), .dat tI (x.2.2.2.1), .dat tI (x.2.2.2.2.1), .dat tI (x.2.2.2.2.2.1)]), (2, .box [.dat .bool ((ordF (x.2.2.1, (x.2.2.2.1, (x.2.2.2.2.1, x.2.2.2.2.2.1))) (List.length x.2.1 - Int.toNat x.1) x.2.1 (Int.toNat x.1) (x.2.2.2.2.2.2.1, (x.2.2.2.2.2.2.2.1, (x.2.2.2.2.2.2.2.2.1, x.2.2.2.2.2.2.2.2.2.1)))).1)]), (3, .box [.dat tI ((ordF (x.2.2.1, (x.2.2.2.1, (x.2.2.2.2.1, x.2.2.2.2.2.1))) (List.length x.2.1 - Int.toNat x.1) x.2.1 (Int.toNat x.1) (x.2.2.2.2.2.2.1, (x.2.2.2.2.2.2.2.1, (x.2.2.2.2.2.2.2.2.1, x.2.2.2.2.2.2.2.2.2.1)))).2.1), .dat tI ((ordF (x.2.2.1, (x.2.2.2.1, (x.2.2.2.2.1, x.2.2.2.2.2.1))) (List.length x.2.1 - Int.toNat x.1) x.2.1 (Int.toNat x.1) (x.2.2.2.2.2.2.1, (x.2.2.2.2.2.2.2.1, (x.2.2.2.2.2.2.2.2.1, x.2.2.2.2.2.2.2.2.2.1)))).2.2.1), .dat (.slice .str) ((ordF (x.2.2.1, (x.2.2.2.1, (x.2.2.2.2.1, x.2.2.2.2.2.1))) (List.length x.2.1 - Int.toNat x.1) x.2.1 (Int.toNat x.1) (x.2.2.2.2.2.2.1, (x.2.2.2.2.2.2.2.1, (x.2.2.2.2.2.2.2.2.1, x.2.2.2.2.2.2.2.2.2.1)))).2.2.2)])]⟩)
noncomputable def En58d : Env := En58c.add 58 S58d
noncomputable def I58e : FnI := ⟨En58d, ⟨[(0, [0, 1, 2, 6], [])], [], []⟩, Tryd.f58, codeOf Tryd.f58, [], 4⟩
noncomputable def S58e : Spec := genS [false, true, false] true ⟨[.slc 0, .undef, .clos 59 [.ptr 1 0, .ptr 2 0, .ptr 3 0]], [(0, .arr tItem []), (1, .box [.slc 0, .undef, .undef, .undef, .undef]), (2, .box [.undef]), (3, .box [.undef, .undef, .undef])]⟩ [tI, (.slice tItem), tI, tI, tI, tI, .bool, tI, tI, (.slice .str)] (fun x => decide (0 ≤ x.1) && decide (x.1 ≤ (List.length x.2.1 : Int)) && decide ((List.length x.2.1 : Int) - x.1 ≤ 5) && partsOk x.2.1 && decide (List.length x.2.1 ≤ 5)) (fun x => ⟨[], [(0, .arr tItem (x.2.1)), (1, .box [.slc 0, .dat tI (x.2.2.1), .dat tI (x.2.2.2.1), .dat tI (x.2.2.2.2.1), .dat tI (x.2.2.2.2.2.1)]), (2, .box [.dat .bool ((ordF (x.2.2.1, (x.2.2.2.1, (x.2.2.2.2.1, x.2.2.2.2.2.1))) (List.length x.2.1 - Int.toNat x.1) x.2.1 (Int.toNat x.1) (x.2.2.2.2.2.2.1, (x.2.2.2.2.2.2.2.1, (x.2.2.2.2.2.2.2.2.1, x.2.2.2.2.2.2.2.2.2.1)))).1)]), (3, .box [.dat tI ((ordF (x.2.2.1, (x.2.2.2.1, (x.2.2.2.2.1, x.2.2.2.2.2.1))) (List.length x.2.1 - Int.toNat x.1) x.2.1 (Int.toNat x.1) (x.2.2.2.2.2.2.1, (x.2.2.2.2.2.2.2.1, (x.2.2.2.2.2.2.2.2.1, x.2.2.2.2.2.2.2.2.2.1)))).2.1), .dat tI ((ordF (x.2.2.1, (x.2.2.2.1, (x.2.2.2.2.1, x.2.2.2.2.2.1))) (List.length x.2.1 - Int.toNat x.1) x.2.1 (Int.toNat x.1) (x.2.2.2.2.2.2.1, (x.2.2.2.2.2.2.2.1, (x.2.2.2.2.2.2.2.2.1, x.2.2.2.2.2.2.2.2.2.1)))).2.2.1), .dat (.slice .str) ((ordF (x.2.2.1, (x.2.2.2.1, (x.2.2.2.2.1, x.2.2.2.2.2.1))) (List.length x.2.1 - Int.toNat x.1) x.2.1 (Int.toNat x.1) (x.2.2.2.2.2.2.1, (x.2.2.2.2.2.2.2.1, (x.2.2.2.2.2.2.2.2.1, x.2.2.2.2.2.2.2.2.2.1)))).2.2.2)])]⟩)
noncomputable def En58e : Env := En58d.add 58 S58e
noncomputable def I57 : FnI := ⟨En58e, ⟨[], [], []⟩, Tryd.f57, codeOf Tryd.f57, [.own tItem], 0⟩
noncomputable def S57 : Spec := genS [true] true ⟨[.undef], []⟩ [(.slice tItem)] (fun x => decide (List.length x.1 ≤ 1000)) (fun x => ⟨[.slc 0], [(0, .arr tItem (x.1))]⟩)
noncomputable def En57 : Env := En58e.add 57 S57
noncomputable def I21 : FnI := ⟨En57, ⟨[], [200021], []⟩, Tryd.f21, codeOf Tryd.f21, [.data (.slice .str), .data tI, .data tI], 0⟩
noncomputable def S21 : Spec := genS [true] true ⟨[.undef], []⟩ [tPrgm] (fun x => decide (List.length x.1.1 ≤ 5)) (fun x => ⟨[.dat (.slice .str) ((ordR x.1).1), .dat tI ((ordR x.1).2.1), .dat tI ((ordR x.1).2.2)], []⟩)
noncomputable def En21 : Env := En57.add 21 S21
noncomputable def I62 : FnI := ⟨En21, ⟨[], [], []⟩, Tryd.f62, codeOf Tryd.f62, [.data tI], 0⟩
noncomputable def S62 : Spec := genS [true, true] false ⟨[.undef, .undef], []⟩ [tPrgm, (.slice tItem)] (fun x => t62_ok x.1 x.2.1) (fun x => ⟨[.dat tI (t62_0 x.1 x.2.1)], []⟩)
noncomputable def En62 : Env := En21.add 62 S62
noncomputable def I22 : FnI := ⟨En62, ⟨[(0, [1, 6, 7, 24, 25], [])], [], []⟩, Tryd.f22, codeOf Tryd.f22, [.data tI, .data tI, .data tI], 0⟩
noncomputable def S22 : Spec := genS [true] false ⟨[.undef], []⟩ [tPrgm] (fun x => true) (fun x => ⟨[.dat tI ((halfP x.1).1), .dat tI ((halfP x.1).2.1), .dat tI ((halfP x.1).2.2)], []⟩)
noncomputable def En22 : Env := En62.add 22 S22
noncomputable def I23 : FnI := ⟨En22, ⟨[(0, [5, 6, 7], [])], [], []⟩, Tryd.f23, codeOf Tryd.f23, [.data tI], 0⟩
noncomputable def S23 : Spec := genS [true] false ⟨[.undef], []⟩ [(.slice tI)] (fun x => decide (List.length x.1 ≤ 1000)) (fun x => ⟨[.dat tI (firstE x.1)], []⟩)
noncomputable def En23 : Env := En22.add 23 S23
noncomputable def I24 : FnI := ⟨En23, ⟨[], [], []⟩, Tryd.f24, codeOf Tryd.f24, [.data tI], 0⟩
noncomputable def S24 : Spec := genS [true, true] false ⟨[.undef, .undef], []⟩ [.bool, tI] (fun x => true) (fun x => ⟨[.dat tI (t24_0 x.1 x.2.1)], []⟩)
noncomputable def En24 : Env := En23.add 24 S24
noncomputable def I48 : FnI := ⟨En24, ⟨[], [], []⟩, Tryd.f48, codeOf Tryd.f48, [.data tI], 0⟩
noncomputable def S48 : Spec := genS [true, true] false ⟨[.undef, .undef], []⟩ [tPrgm, tI] (fun x => decide (0 ≤ x.2.1) && decide (x.2.1 + 1 < (List.length x.1.1 : Int)) && decide (List.length x.1.1 ≤ 1000)) (fun x => ⟨[.dat tI (behindF x.1 x.2.1)], []⟩)
noncomputable def En48 : Env := En24.add 48 S48
noncomputable def I15 : FnI := ⟨En48, ⟨[(0, [1, 2, 5, 9, 10, 11], [(5, tTimed)])], [], []⟩, Tryd.f15, codeOf Tryd.f15, [.own tTimed], 0⟩
noncomputable def S15 : Spec := genS [true, true] false ⟨[.undef, .undef], []⟩ [tPrgm, tI] (fun x => decide (List.length x.1.1 ≤ 1000)) (fun x => ⟨[.slc 0], [(0, .arr tTimed (timGo x.1 0 x.2.1 x.1.1))]⟩)
noncomputable def En15 : Env := En48.add 15 S15
noncomputable def I13 : FnI := ⟨En15, ⟨[], [], []⟩, Tryd.f13, codeOf Tryd.f13, [.data tI], 0⟩
noncomputable def S13 : Spec := genS [true] false ⟨[.undef], []⟩ [tPrgm] (fun x => decide (List.length x.1.1 ≤ 1000)) (fun x => ⟨[.dat tI (longR x.1)], []⟩)
noncomputable def En13 : Env := En15.add 13 S13
noncomputable def I109 : FnI := ⟨En13, ⟨[], [], []⟩, Tryd.f109, codeOf Tryd.f109, [.data .bool], 0⟩
noncomputable def S109 : Spec := genS [true] false ⟨[.undef], []⟩ [tI] (fun x => true) (fun x => ⟨[.dat .bool (t109_0 x.1)], []⟩)
noncomputable def En109 : Env := En13.add 109 S109
noncomputable def I92 : FnI := ⟨En109, ⟨[], [], []⟩, Tryd.f92, codeOf Tryd.f92, [.data tI], 0⟩
noncomputable def S92 : Spec := genS [true, true] false ⟨[.undef, .undef], []⟩ [tI, tI] (fun x => true) (fun x => ⟨[.dat tI (t92_0 x.1 x.2.1)], []⟩)
noncomputable def En92 : Env := En109.add 92 S92
noncomputable def I64 : FnI := ⟨En92, ⟨[(0, [0, 1, 9, 10, 11], [])], [], []⟩, Tryd.f64, codeOf Tryd.f64, [.data tI], 0⟩
noncomputable def S64 : Spec := genS [true, true] false ⟨[.undef, .undef], []⟩ [(.slice tI), (.slice tI)] (fun x => decide (List.length x.1 ≤ 1000)) (fun x => ⟨[.dat tI (cmpGo x.1 x.2.1)], []⟩)
noncomputable def En64 : Env := En92.add 64 S64
noncomputable def I94 : FnI := ⟨En64, ⟨[], [], []⟩, Tryd.f94, codeOf Tryd.f94, [.data .bool], 2⟩
noncomputable def S94 : Spec := genS [true] true ⟨[.undef, .ptr 0 0, .ptr 1 0], [(0, .box [.undef, .undef, .undef, .undef, .undef]), (1, .box [.undef])]⟩ [.str, (.slice tItem), tI, tI, tI, tI, tI] (fun x => t94_ok x.1 x.2.1 x.2.2.1 x.2.2.2.1 x.2.2.2.2.1 x.2.2.2.2.2.1 x.2.2.2.2.2.2.1) (fun x => ⟨[.dat .bool (t94_0 x.1 x.2.1 x.2.2.1 x.2.2.2.1 x.2.2.2.2.1 x.2.2.2.2.2.1 x.2.2.2.2.2.2.1)], [(0, .box [.dat (.slice tItem) x.2.1, .dat tI x.2.2.1, .dat tI x.2.2.2.1, .dat tI x.2.2.2.2.1, .dat tI x.2.2.2.2.2.1]), (1, .box [.dat tI x.2.2.2.2.2.2.1])]⟩)
noncomputable def En94 : Env := En64.add 94 S94
noncomputable def I110a : FnI := ⟨En94, ⟨[(0, [0, 1, 7, 8], [])], [], []⟩, Tryd.f110, codeOf Tryd.f110, [.data tI], 2⟩
noncomputable def S110a : Spec := genS [true, false] true ⟨[.undef, .clos 94 [.ptr 0 0, .ptr 1 0]], [(0, .box [.undef, .undef, .undef, .undef, .undef]), (1, .box [.undef])]⟩ [(.slice .str), (.slice tItem), tI, tI, tI, tI, tI] (fun x => decide (List.length x.1 ≤ 1000) && decide (List.length x.2.1 ≤ 1000) && partsOk x.2.1 && decide (0 ≤ x.2.2.2.2.2.2.1) && decide (x.2.2.2.2.2.2.1 + 1 < (List.length x.2.1 : Int))) (fun x => ⟨[.dat tI (idxBy (fun o => t94_0 o x.2.1 x.2.2.1 x.2.2.2.1 x.2.2.2.2.1 x.2.2.2.2.2.1 x.2.2.2.2.2.2.1) x.1 0)], [(0, .box [.dat (.slice tItem) (x.2.1), .dat tI (x.2.2.1), .dat tI (x.2.2.2.1), .dat tI (x.2.2.2.2.1), .dat tI (x.2.2.2.2.2.1)]), (1, .box [.dat tI (x.2.2.2.2.2.2.1)])]⟩)
noncomputable def SS110a : Spec := orS S110 S110a
noncomputable def En110a : Env := En94.add 110 SS110a
noncomputable def I93a : FnI := ⟨En110a, ⟨[], [], []⟩, Tryd.f93, codeOf Tryd.f93, [.data .bool], 2⟩
noncomputable def S93a : Spec := genS [true, false] true ⟨[.undef, .clos 94 [.ptr 0 0, .ptr 1 0]], [(0, .box [.undef, .undef, .undef, .undef, .undef]), (1, .box [.undef])]⟩ [(.slice .str), (.slice tItem), tI, tI, tI, tI, tI] (fun x => t93a_ok x.1 x.2.1 x.2.2.1 x.2.2.2.1 x.2.2.2.2.1 x.2.2.2.2.2.1 x.2.2.2.2.2.2.1) (fun x => ⟨[.dat .bool (t93a_0 x.1 x.2.1 x.2.2.1 x.2.2.2.1 x.2.2.2.2.1 x.2.2.2.2.2.1 x.2.2.2.2.2.2.1)], [(0, .box [.dat (.slice tItem) x.2.1, .dat tI x.2.2.1, .dat tI x.2.2.2.1, .dat tI x.2.2.2.2.1, .dat tI x.2.2.2.2.2.1]), (1, .box [.dat tI x.2.2.2.2.2.2.1])]⟩)
noncomputable def SS93a : Spec := orS S93 S93a
noncomputable def En93a : Env := En110a.add 93 SS93a
noncomputable def I65 : FnI := ⟨En93a, ⟨[(0, [1, 3, 4], [])], [], []⟩, Tryd.f65, codeOf Tryd.f65, [.data tI], 0⟩
noncomputable def S65 : Spec := genS [true] false ⟨[.undef], []⟩ [tPrgm] (fun x => decide (List.length x.1.1 ≤ 1000) && partsOk x.1.1) (fun x => ⟨[.dat tI (pairsF x.1.2.2.2.2 0 x.1.1 0)], []⟩)
noncomputable def En65 : Env := En93a.add 65 S65
noncomputable def I67 : FnI := ⟨En65, ⟨[(0, [3, 6, 7, 8], [(3, .str)])], [], []⟩, Tryd.f67, codeOf Tryd.f67, [.data (.slice .str)], 0⟩
noncomputable def S67 : Spec := genS [true] true ⟨[.undef], []⟩ [(.slice tItem)] (fun x => decide (List.length x.1 ≤ 1000)) (fun x => ⟨[.dat (.slice .str) (List.map (fun o => o.1) x.1)], []⟩)
noncomputable def En67 : Env := En65.add 67 S67
noncomputable def I63 : FnI := ⟨En67, ⟨[], [], []⟩, Tryd.f63, codeOf Tryd.f63, [.data .bool], 0⟩
noncomputable def S63 : Spec := genS [true, true] false ⟨[.undef, .undef], []⟩ [tPrgm, tPrgm] (fun x => decide (List.length x.1.1 ≤ 1000) && partsOk x.1.1 && decide (List.length x.2.1.1 ≤ 1000) && partsOk x.2.1.1) (fun x => ⟨[.dat .bool (betR x.1 x.2.1)], []⟩)
noncomputable def En63 : Env := En67.add 63 S63
noncomputable def I68 : FnI := ⟨En63, ⟨[(0, [0, 5, 29, 30, 31], [])], [], []⟩, Tryd.f68, codeOf Tryd.f68, [], 5⟩
noncomputable def S68 : Spec := genS [true] true ⟨[.undef, .ptr 0 0, .ptr 1 0, .ptr 2 0, .ptr 3 0, .ptr 4 0], [(0, .box [.undef, .undef, .undef, .undef, .undef]), (1, .box [.undef]), (2, .box [.clos 63 []]), (3, .box [.undef, .undef, .undef, .undef, .undef]), (4, .box [.clos 68 [.ptr 0 0, .ptr 1 0, .ptr 2 0, .ptr 3 0, .ptr 4 0]])]⟩ [(.slice tItem), (.slice tItem), tI, tI, tI, tI, .bool, (.slice tItem), tI, tI, tI, tI] (fun x => decide (List.length x.2.1 ≤ 5) && decide (List.length x.1 ≤ List.length x.2.1) && decide (List.length x.2.1 - List.length x.1 ≤ 0) && partsOk x.2.1 && partsOk x.1 && decide (List.length x.2.2.2.2.2.2.2.1 ≤ 1000) && partsOk x.2.2.2.2.2.2.2.1) (fun x => ⟨[], [(0, .box [.dat (.slice tItem) (x.2.1), .dat tI (x.2.2.1), .dat tI (x.2.2.2.1), .dat tI (x.2.2.2.2.1), .dat tI (x.2.2.2.2.2.1)]), (1, .box [.dat .bool ((tryF x.2.1 (x.2.2.1, (x.2.2.2.1, (x.2.2.2.2.1, x.2.2.2.2.2.1))) (List.length x.2.1 - List.length x.1) x.1 (x.2.2.2.2.2.2.1, (x.2.2.2.2.2.2.2.1, (x.2.2.2.2.2.2.2.2.1, (x.2.2.2.2.2.2.2.2.2.1, (x.2.2.2.2.2.2.2.2.2.2.1, x.2.2.2.2.2.2.2.2.2.2.2.1)))))).1)]), (2, .box [.clos 63 []]), (3, .box [.dat (.slice tItem) ((tryF x.2.1 (x.2.2.1, (x.2.2.2.1, (x.2.2.2.2.1, x.2.2.2.2.2.1))) (List.length x.2.1 - List.length x.1) x.1 (x.2.2.2.2.2.2.1, (x.2.2.2.2.2.2.2.1, (x.2.2.2.2.2.2.2.2.1, (x.2.2.2.2.2.2.2.2.2.1, (x.2.2.2.2.2.2.2.2.2.2.1, x.2.2.2.2.2.2.2.2.2.2.2.1)))))).2.1), .dat tI ((tryF x.2.1 (x.2.2.1, (x.2.2.2.1, (x.2.2.2.2.1, x.2.2.2.2.2.1))) (List.length x.2.1 - List.length x.1) x.1 (x.2.2.2.2.2.2.1, (x.2.2.2.2.2.2.2.1, (x.2.2.2.2.2.2.2.2.1, (x.2.2.2.2.2.2.2.2.2.1, (x.2.2.2.2.2.2.2.2.2.2.1, x.2.2.2.2.2.2.2.2.2.2.2.1)))))).2.2.1), .dat tI ((tryF x.2.1 (x.2.2.1, (x.2.2.2.1, (x.2.2.2.2.1, x.2.2.2.2.2.1))) (List.length x.2.1 - List.length x.1) x.1 (x.2.2.2.2.2.2.1, (x.2.2.2.2.2.2.2.1, (x.2.2.2.2.2.2.2.2.1, (x.2.2.2.2.2.2.2.2.2.1, (x.2.2.2.2.2.2.2.2.2.2.1, x.2.2.2.2.2.2.2.2.2.2.2.1)))))).2.2.2.1), .dat tI ((tryF x.2.1 (x.2.2.1, (x.2.2.2.1, (x.2.2.2.2.1, x.2.2.2.2.2.1))) (List.length x.2.1 - List.length x.1) x.1 (x.2.2.2.2.2.2.1, (x.2.2.2.2.2.2.2.1, (x.2.2.2.2.2.2.2.2.1, (x.2.2.2.2.2.2.2.2.2.1, (x.2.2.2.2.2.2.2.2.2.2.1, x.2.2.2.2.2.2.2.2.2.2.2.1)))))).2.2.2.2.1), .dat tI ((tryF x.2.1 (x.2.2.1, (x.2.2.2.1, (x.2.2.2.2.1, x.2.2.2.2.2.1))) (List.length x.2.1 - List.length x.1) x.1 (x.2.2.2.2.2.2.1, (x.2.2.2.2.2.2.2.1, (x.2.2.2.2.2.2.2.2.1, (x.2.2.2.2.2.2.2.2.2.1, (x.2.2.2.2.2.2.2.2.2.2.1, x.2.2.2.2.2.2.2.2.2.2.2.1)))))).2.2.2.2.2)]), (4, .box [.clos 68 [.ptr 0 0, .ptr 1 0, .ptr 2 0, .ptr 3 0, .ptr 4 0]])]⟩)
noncomputable def En68 : Env := En63.add 68 S68
noncomputable def I68a : FnI := ⟨En68, ⟨[(0, [0, 5, 29, 30, 31], [])], [], []⟩, Tryd.f68, codeOf Tryd.f68, [], 5⟩
noncomputable def S68a : Spec := genS [true] true ⟨[.undef, .ptr 0 0, .ptr 1 0, .ptr 2 0, .ptr 3 0, .ptr 4 0], [(0, .box [.undef, .undef, .undef, .undef, .undef]), (1, .box [.undef]), (2, .box [.clos 63 []]), (3, .box [.undef, .undef, .undef, .undef, .undef]), (4, .box [.clos 68 [.ptr 0 0, .ptr 1 0, .ptr 2 0, .ptr 3 0, .ptr 4 0]])]⟩ [(.slice tItem), (.slice tItem), tI, tI, tI, tI, .bool, (.slice tItem), tI, tI, tI, tI] (fun x => decide (List.length x.2.1 ≤ 5) && decide (List.length x.1 ≤ List.length x.2.1) && decide (List.length x.2.1 - List.length x.1 ≤ 1) && partsOk x.2.1 && partsOk x.1 && decide (List.length x.2.2.2.2.2.2.2.1 ≤ 1000) && partsOk x.2.2.2.2.2.2.2.1) (fun x => ⟨[], [(0, .box [.dat (.slice tItem) (x.2.1), .dat tI (x.2.2.1), .dat tI (x.2.2.2.1), .dat tI (x.2.2.2.2.1), .dat tI (x.2.2.2.2.2.1)]), (1, .box [.dat .bool ((tryF x.2.1 (x.2.2.1, (x.2.2.2.1, (x.2.2.2.2.1, x.2.2.2.2.2.1))) (List.length x.2.1 - List.length x.1) x.1 (x.2.2.2.2.2.2.1, (x.2.2.2.2.2.2.2.1, (x.2.2.2.2.2.2.2.2.1, (x.2.2.2.2.2.2.2.2.2.1, (x.2.2.2.2.2.2.2.2.2.2.1, x.2.2.2.2.2.2.2.2.2.2.2.1)))))).1)]), (2, .box [.clos 63 []]), (3, .box [.dat (.slice tItem) ((tryF x.2.1 (x.2.2.1, (x.2.2.2.1, (x.2.2.2.2.1, x.2.2.2.2.2.1))) (List.length x.2.1 - List.length x.1) x.1 (x.2.2.2.2.2.2.1, (x.2.2.2.2.2.2.2.1, (x.2.2.2.2.2.2.2.2.1, (x.2.2.2.2.2.2.2.2.2.1, (x.2.2.2.2.2.2.2.2.2.2.1, x.2.2.2.2.2.2.2.2.2.2.2.1)))))).2.1), .dat tI ((tryF x.2.1 (x.2.2.1, (x.2.2.2.1, (x.2.2.2.2.1, x.2.2.2.2.2.1))) (List.length x.2.1 - List.length x.1) x.1 (x.2.2.2.2.2.2.1, (x.2.2.2.2.2.2.2.1, (x.2.2.2.2.2.2.2.2.1, (x.2.2.2.2.2.2.2.2.2.1, (x.2.2.2.2.2.2.2.2.2.2.1, x.2.2.2.2.2.2.2.2.2.2.2.1)))))).2.2.1), .dat tI ((tryF x.2.1 (x.2.2.1, (x.2.2.2.1, (x.2.2.2.2.1, x.2.2.2.2.2.1))) (List.length x.2.1 - List.length x.1) x.1 (x.2.2.2.2.2.2.1, (x.2.2.2.2.2.2.2.1, (x.2.2.2.2.2.2.2.2.1, (x.2.2.2.2.2.2.2.2.2.1, (x.2.2.2.2.2.2.2.2.2.2.1, x.2.2.2.2.2.2.2.2.2.2.2.1)))))).2.2.2.1), .dat tI ((tryF x.2.1 (x.2.2.1, (x.2.2.2.1, (x.2.2.2.2.1, x.2.2.2.2.2.1))) (List.length x.2.1 - List.length x.1) x.1 (x.2.2.2.2.2.2.1, (x.2.2.2.2.2.2.2.1, (x.2.2.2.2.2.2.2.2.1, (x.2.2.2.2.2.2.2.2.2.1, (x.2.2.2.2.2.2.2.2.2.2.1, x.2.2.2.2.2.2.2.2.2.2.2.1)))))).2.2.2.2.1), .dat tI ((tryF x.2.1 (x.2.2.1, (x.2.2.2.1, (x.2.2.2.2.1, x.2.2.2.2.2.1))) (List.length x.2.1 - List.length x.1) x.1 (x.2.2.2.2.2.2.1, (x.2.2.2.2.2.2.2.1, (x.2.2.2.2.2.2.2.2.1, (x.2.2.2.2.2.2.2.2.2.1, (x.2.2.2.2.2.2.2.2.2.2.1, x.2.2.2.2.2.2.2.2.2.2.2.1)))))).2.2.2.2.2)]), (4, .box [.clos 68 [.ptr 0 0, .ptr 1 0, .ptr 2 0, .ptr 3 0, .ptr 4 0]])]⟩)
noncomputable def En68a : Env := En68.add 68 S68a
noncomputable def I68b : FnI := ⟨En68a, ⟨[(0, [0, 5, 29, 30, 31], [])], [], []⟩, Tryd.f68, codeOf Tryd.f68, [], 5⟩
noncomputable def S68b : Spec := genS [true] true ⟨[.undef, .ptr 0 0, .ptr 1 0, .ptr 2 0, .ptr 3 0, .ptr 4 0], [(0, .box [.undef, .undef, .undef, .undef, .undef]), (1, .box [.undef]), (2, .box [.clos 63 []]), (3, .box [.undef, .undef, .undef, .undef, .undef]), (4, .box [.clos 68 [.ptr 0 0, .ptr 1 0, .ptr 2 0, .ptr 3 0, .ptr 4 0]])]⟩ [(.slice tItem), (.slice tItem), tI, tI, tI, tI, .bool, (.slice tItem), tI, tI, tI, tI] (fun x => decide (List.length x.2.1 ≤ 5) && decide (List.length x.1 ≤ List.length x.2.1) && decide (List.length x.2.1 - List.length x.1 ≤ 2) && partsOk x.2.1 && partsOk x.1 && decide (List.length x.2.2.2.2.2.2.2.1 ≤ 1000) && partsOk x.2.2.2.2.2.2.2.1) (fun x => ⟨[], [(0, .box [.dat (.slice tItem) (x.2.1), .dat tI (x.2.2.1), .dat tI (x.2.2.2.1), .dat tI (x.2.2.2.2.1), .dat tI (x.2.2.2.2.2.1)]), (1, .box [.dat .bool ((tryF x.2.1 (x.2.2.1, (x.2.2.2.1, (x.2.2.2.2.1, x.2.2.2.2.2.1))) (List.length x.2.1 - List.length x.1) x.1 (x.2.2.2.2.2.2.1, (x.2.2.2.2.2.2.2.1, (x.2.2.2.2.2.2.2.2.1, (x.2.2.2.2.2.2.2.2.2.1, (x.2.2.2.2.2.2.2.2.2.2.1, x.2.2.2.2.2.2.2.2.2.2.2.1)))))).1)]), (2, .box [.clos 63 []]), (3, .box [.dat (.slice tItem) ((tryF x.2.1 (x.2.2.1, (x.2.2.2.1, (x.2.2.2.2.1, x.2.2.2.2.2.1))) (List.length x.2.1 - List.length x.1) x.1 (x.2.2.2.2.2.2.1, (x.2.2.2.2.2.2.2.1, (x.2.2.2.2.2.2.2.2.1, (x.2.2.2.2.2.2.2.2.2.1, (x.2.2.2.2.2.2.2.2.2.2.1, x.2.2.2.2.2.2.2.2.2.2.2.1)))))).2.1), .dat tI ((tryF x.2.1 (x.2.2.1, (x.2.2.2.1, (x.2.2.2.2.1, x.2.2.2.2.2.1))) (List.length x.2.1 - List.length x.1) x.1 (x.2.2.2.2.2.2.1, (x.2.2.2.2.2.2.2.1, (x.2.2.2.2.2.2.2.2.1, (x.2.2.2.2.2.2.2.2.2.1, (x.2.2.2.2.2.2.2.2.2.2.1, x.2.2.2.2.2.2.2.2.2.2.2.1)))))).2.2.1), .dat tI ((tryF x.2.1 (x.2.2.1, (x.2.2.2.1, (x.2.2.2.2.1, x.2.2.2.2.2.1))) (List.length x.2.1 - List.length x.1) x.1 (x.2.2.2.2.2.2.1, (x.2.2.2.2.2.2.2.1, (x.2.2.2.2.2.2.2.2.1, (x.2.2.2.2.2.2.2.2.2.1, (x.2.2.2.2.2.2.2.2.2.2.1, x.2.2.2.2.2.2.2.2.2.2.2.1)))))).2.2.2.1), .dat tI ((tryF x.2.1 (x.2.2.1, (x.2.2.2.1, (x.2.2.2.2.1, x.2.2.2.2.2.1))) (List.length x.2.1 - List.length x.1) x.1 (x.2.2.2.2.2.2.1, (x.2.2.2.2.2.2.2.1, (x.2.2.2.2.2.2.2.2.1, (x.2.2.2.2.2.2.2.2.2.1, (x.2.2.2.2.2.2.2.2.2.2.1, x.2.2.2.2.2.2.2.2.2.2.2.1)))))).2.2.2.2.1), .dat tI ((tryF x.2.1 (x.2.2.1, (x.2.2.2.1, (x.2.2.2.2.1, x.2.2.2.2.2.1))) (List.length x.2.1 - List.length x.1) x.1 (x.2.2.2.2.2.2.1, (x.2.2.2.2.2.2.2.1, (x.2.2.2.2.2.2.2.2.1, (x.2.2.2.2.2.2.2.2.2.1, (x.2.2.2.2.2.2.2.2.2.2.1, x.2.2.2.2.2.2.2.2.2.2.2.1)))))).2.2.2.2.2)]), (4, .box [.clos 68 [.ptr 0 0, .ptr 1 0, .ptr 2 0, .ptr 3 0, .ptr 4 0]])]⟩)
noncomputable def En68b : Env := En68a.add 68 S68b
noncomputable def I68c : FnI := ⟨En68b, ⟨[(0, [0, 5, 29, 30, 31], [])], [], []⟩, Tryd.f68, codeOf Tryd.f68, [], 5⟩
noncomputable def S68c : Spec := genS [true] true ⟨[.undef, .ptr 0 0, .ptr 1 0, .ptr 2 0, .ptr 3 0, .ptr 4 0], [(0, .box [.undef, .undef, .undef, .undef, .undef]), (1, .box [.undef]), (2, .box [.clos 63 []]), (3, .box [.undef, .undef, .undef, .undef, .undef]), (4, .box [.clos 68 [.ptr 0 0, .ptr 1 0, .ptr 2 0, .ptr 3 0, .ptr 4 0]])]⟩ [(.slice tItem), (.slice tItem), tI, tI, tI, tI, .bool, (.slice tItem), tI, tI, tI, tI] (fun x => decide (List.length x.2.1 ≤ 5) && decide (List.length x.1 ≤ List.length x.2.1) && decide (List.length x.2.1 - List.length x.1 ≤ 3) && partsOk x.2.1 && partsOk x.1 && decide (List.length x.2.2.2.2.2.2.2.1 ≤ 1000) && partsOk x.2.2.2.2.2.2.2.1) (fun x => ⟨[], [(0, .box [.dat (.slice tItem) (x.2.1), .dat tI (x.2.2.1), .dat tI (x.2.2.2.1), .dat tI (x.2.2.2.2.1), .dat tI (x.2.2.2.2.2.1)]), (1, .box [.dat .bool ((tryF x.2.1 (x.2.2.1, (x.2.2.2.1, (x.2.2.2.2.1, x.2.2.2.2.2.1))) (List.length x.2.1 - List.length x.1) x.1 (x.2.2.2.2.2.2.1, (x.2.2.2.2.2.2.2.1, (x.2.2.2.2.2.2.2.2.1, (x.2.2.2.2.2.2.2.2.2.1, (x.2.2.2.2.2.2.2.2.2.2.1, x.2.2.2.2.2.2.2.2.2.2.2.1)))))).1)]), (2, .box [.clos 63 []]), (3, .box [.dat (.slice tItem) ((tryF x.2.1 (x.2.2.1, (x.2.2.2.1, (x.2.2.2.2.1, x.2.2.2.2.2.1))) (List.length x.2.1 - List.length x.1) x.1 (x.2.2.2.2.2.2.1, (x.2.2.2.2.2.2.2.1, (x.2.2.2.2.2.2.2.2.1, (x.2.2.2.2.2.2.2.2.2.1, (x.2.2.2.2.2.2.2.2.2.2.1, x.2.2.2.2.2.2.2.2.2.2.2.1)))))).2.1), .dat tI ((tryF x.2.1 (x.2.2.1, (x.2.2.2.1, (x.2.2.2.2.1, x.2.2.2.2.2.1))) (List.length x.2.1 - List.length x.1) x.1 (x.2.2.2.2.2.2.1, (x.2.2.2.2.2.2.2.1, (x.2.2.2.2.2.2.2.2.1, (x.2.2.2.2.2.2.2.2.2.1, (x.2.2.2.2.2.2.2.2.2.2.1, x.2.2.2.2.2.2.2.2.2.2.2.1)))))).2.2.1), .dat tI ((tryF x.2.1 (x.2.2.1, (x.2.2.2.1, (x.2.2.2.2.1, x.2.2.2.2.2.1))) (List.length x.2.1 - List.length x.1) x.1 (x.2.2.2.2.2.2.1, (x.2.2.2.2.2.2.2.1, (x.2.2.2.2.2.2.2.2.1, (x.2.2.2.2.2.2.2.2.2.1, (x.2.2.2.2.2.2.2.2.2.2.1, x.2.2.2.2.2.2.2.2.2.2.2.1)))))).2.2.2.1), .dat tI ((tryF x.2.1 (x.2.2.1, (x.2.2.2.1, (x.2.2.2.2.1, x.2.2.2.2.2.1))) (List.length x.2.1 - List.length x.1) x.1 (x.2.2.2.2.2.2.1, (x.2.2.2.2.2.2.2.1, (x.2.2.2.2.2.2.2.2.1, (x.2.2.2.2.2.2.2.2.2.1, (x.2.2.2.2.2.2.2.2.2.2.1, x.2.2.2.2.2.2.2.2.2.2.2.1)))))).2.2.2.2.1), .dat tI ((tryF x.2.1 (x.2.2.1, (x.2.2.2.1, (x.2.2.2.2.1, x.2.2.2.2.2.1))) (List.length x.2.1 - List.length x.1) x.1 (x.2.2.2.2.2.2.1, (x.2.2.2.2.2.2.2.1, (x.2.2.2.2.2.2.2.2.1, (x.2.2.2.2.2.2.2.2.2.1, (x.2.2.2.2.2.2.2.2.2.2.1, x.2.2.2.2.2.2.2.2.2.2.2.1)))))).2.2.2.2.2)]), (4, .box [.clos 68 [.ptr 0 0, .ptr 1 0, .ptr 2 0, .ptr 3 0, .ptr 4 0]])]⟩)
noncomputable def En68c : Env := En68b.add 68 S68c
noncomputable def I68d : FnI := ⟨En68c, ⟨[(0, [0, 5, 29, 30, 31], [])], [], []⟩, Tryd.f68, codeOf Tryd.f68, [], 5⟩
noncomputable def S68d : Spec := genS [true] true ⟨[.undef, .ptr 0 0, .ptr 1 0, .ptr 2 0, .ptr 3 0, .ptr 4 0], [(0, .box [.undef, .undef, .undef, .undef, .undef]), (1, .box [.undef]), (2, .box [.clos 63 []]), (3, .box [.undef, .undef, .undef, .undef, .undef]), (4, .box [.clos 68 [.ptr 0 0, .ptr 1 0, .ptr 2 0, .ptr 3 0, .ptr 4 0]])]⟩ [(.slice tItem), (.slice tItem), tI, tI, tI, tI, .bool, (.slice tItem), tI, tI, tI, tI] (fun x => decide (List.length x.2.1 ≤ 5) && decide (List.length x.1 ≤ List.length x.2.1) && decide (List.length x.2.1 - List.length x.1 ≤ 4) && partsOk x.2.1 && partsOk x.1 && decide (List.length x.2.2.2.2.2.2.2.1 ≤ 1000) && partsOk x.2.2.2.2.2.2.2.1) (fun x => ⟨[], [(0, .box [.dat (.slice tItem) (x.2.1), .dat tI (x.2.2.1), .dat tI (x.2.2.2.1), .dat tI (x.2.2.2.2.1), .dat tI (x.2.2.2.2.2.1)]), (1, .box [.dat .bool ((tryF x.2.1 (x.2.2.1, (x.2.2.2.1, (x.2.2.2.2.1, x.2.2.2.2.2.1))) (List.length x.2.1 - List.length x.1) x.1 (x.2.2.2.2.2.2.1, (x.2.2.2.2.2.2.2.1, (x.2.2.2.2.2.2.2.2.1, (x.2.2.2.2.2.2.2.2.2.1, (x.2.2.2.2.2.2.2.2.2.2.1, x.2.2.2.2.2.2.2.2.2.2.2.1)))))).1)]), (2, .box [.clos 63 []]), (3, .box [.dat (.slice tItem) ((tryF x.2.1 (x.2.2.1, (x.2.2.2.1, (x.2.2.2.2.1, x.2.2.2.2.2.1))) (List.length x.2.1 - List.length x.1) x.1 (x.2.2.2.2.2.2.1, (x.2.2.2.2.2.2.2.1, (x.2.2.2.2.2.2.2.2.1, (x.2.2.2.2.2.2.2.2.2.1, (x.2.2.2.2.2.2.2.2.2.2.1, x.2.2.2.2.2.2.2.2.2.2.2.1)))))).2.1), .dat tI ((tryF x.2.1 (x.2.2.1, (x.2.2.2.1, (x.2.2.2.2.1, x.2.2.2.2.2.1))) (List.length x.2.1 - List.length x.1) x.1 (x.2.2.2.2.2.2.1, (x.2.2.2.2.2.2.2.1, (x.2.2.2.2.2.2.2.2.1, (x.2.2.2.2.2.2.2.2.2.1, (x.2.2.2.2.2.2.2.2.2.2.1, x.2.2.2.2.2.2.2.2.2.2.2.1)))))).2.2.1), .dat tI ((tryF x.2.1 (x.2.2.1, (x.2.2.2.1, (x.2.2.2.2.1, x.2.2.2.2.2.1))) (List.length x.2.1 - List.length x.1) x.1 (x.2.2.2.2.2.2.1, (x.2.2.2.2.2.2.2.1, (x.2.2.2.2.2.2.2.2.1, (x.2.2.2.2.2.2.2.2.2.1, (x.2.2.2.2.2.2.2.2.2.2.1, x.2.2.2.2.2.2.2.2.2.2.2.1)))))).2.2.2.1), .dat tI ((tryF x.2.1 (x.2.2.1, (x.2.2.2.1, (x.2.2.2.2.1, x.2.2.2.2.2.1))) (List.length x.2.1 - List.length x.1) x.1 (x.2.2.2.2.2.2.1, (x.2.2.2.2.2.2.2.1, (x.2.2.2.2.2.2.2.2.1, (x.2.2.2.2.2.2.2.2.2.1, (x.2.2.2.2.2.2.2.2.2.2.1, x.2.2.2.2.2.2.2.2.2.2.2.1)))))).2.2.2.2.1), .dat tI ((tryF x.2.1 (x.2.2.1, (x.2.2.2.1, (x.2.2.2.2.1, x.2.2.2.2.2.1))) (List.length x.2.1 - List.length x.1) x.1 (x.2.2.2.2.2.2.1, (x.2.2.2.2.2.2.2.1, (x.2.2.2.2.2.2.2.2.1, (x.2.2.2.2.2.2.2.2.2.1, (x.2.2.2.2.2.2.2.2.2.2.1, x.2.2.2.2.2.2.2.2.2.2.2.1)))))).2.2.2.2.2)]), (4, .box [.clos 68 [.ptr 0 0, .ptr 1 0, .ptr 2 0, .ptr 3 0, .ptr 4 0]])]⟩)
noncomputable def En68d : Env := En68c.add 68 S68d
noncomputable def I68e : FnI := ⟨En68d, ⟨[(0, [0, 5, 29, 30, 31], [])], [], []⟩, Tryd.f68, codeOf Tryd.f68, [], 5⟩
noncomputable def S68e : Spec := genS [true] true ⟨[.undef, .ptr 0 0, .ptr 1 0, .ptr 2 0, .ptr 3 0, .ptr 4 0], [(0, .box [.undef, .undef, .undef, .undef, .undef]), (1, .box [.undef]), (2, .box [.clos 63 []]), (3, .box [.undef, .undef, .undef, .undef, .undef]), (4, .box [.clos 68 [.ptr 0 0, .ptr 1 0, .ptr 2 0, .ptr 3 0, .ptr 4 0]])]⟩ [(.slice tItem), (.slice tItem), tI, tI, tI, tI, .bool, (.slice tItem), tI, tI, tI, tI] (fun x => decide (List.length x.2.1 ≤ 5) && decide (List.length x.1 ≤ List.length x.2.1) && decide (List.length x.2.1 - List.length x.1 ≤ 5) && partsOk x.2.1 && partsOk x.1 && decide (List.length x.2.2.2.2.2.2.2.1 ≤ 1000) && partsOk x.2.2.2.2.2.2.2.1) (fun x => ⟨[], [(0, .box [.dat (.slice tItem) (x.2.1), .dat tI (x.2.2.1), .dat tI (x.2.2.2.1), .dat tI (x.2.2.2.2.1), .dat tI (x.2.2.2.2.2.1)]), (1, .box [.dat .bool ((tryF x.2.1 (x.2.2.1, (x.2.2.2.1, (x.2.2.2.2.1, x.2.2.2.2.2.1))) (List.length x.2.1 - List.length x.1) x.1 (x.2.2.2.2.2.2.1, (x.2.2.2.2.2.2.2.1, (x.2.2.2.2.2.2.2.2.1, (x.2.2.2.2.2.2.2.2.2.1, (x.2.2.2.2.2.2.2.2.2.2.1, x.2.2.2.2.2.2.2.2.2.2.2.1)))))).1)]), (2, .box [.clos 63 []]), (3, .box [.dat (.slice tItem) ((tryF x.2.1 (x.2.2.1, (x.2.2.2.1, (x.2.2.2.2.1, x.2.2.2.2.2.1))) (List.length x.2.1 - List.length x.1) x.1 (x.2.2.2.2.2.2.1, (x.2.2.2.2.2.2.2.1, (x.2.2.2.2.2.2.2.2.1, (x.2.2.2.2.2.2.2.2.2.1, (x.2.2.2.2.2.2.2.2.2.2.1, x.2.2.2.2.2.2.2.2.2.2.2.1)))))).2.1), .dat tI ((tryF x.2.1 (x.2.2.1, (x.2.2.2.1, (x.2.2.2.2.1, x.2.2.2.2.2.1))) (List.length x.2.1 - List.length x.1) x.1 (x.2.2.2.2.2.2.1, (x.2.2.2.2.2.2.2.1, (x.2.2.2.2.2.2.2.2.1, (x.2.2.2.2.2.2.2.2.2.1, (x.2.2.2.2.2.2.2.2.2.2.1, x.2.2.2.2.2.2.2.2.2.2.2.1)))))).2.2.1), .dat tI ((tryF x.2.1 (x.2.2.1, (x.2.2.2.1, (x.2.2.2.2.1, x.2.2.2.2.2.1))) (List.length x.2.1 - List.length x.1) x.1 (x.2.2.2.2.2.2.1, (x.2.2.2.2.2.2.2.1, (x.2.2.2.2.2.2.2.2.1, (x.2.2.2.2.2.2.2.2.2.1, (x.2.2.2.2.2.2.2.2.2.2.1, x.2.2.2.2.2.2.2.2.2.2.2.1)))))).2.2.2.1), .dat tI ((tryF x.2.1 (x.2.2.1, (x.2.2.2.1, (x.2.2.2.2.1, x.2.2.2.2.2.1))) (List.length x.2.1 - List.length x.1) x.1 (x.2.2.2.2.2.2.1, (x.2.2.2.2.2.2.2.1, (x.2.2.2.2.2.2.2.2.1, (x.2.2.2.2.2.2.2.2.2.1, (x.2.2.2.2.2.2.2.2.2.2.1, x.2.2.2.2.2.2.2.2.2.2.2.1)))))).2.2.2.2.1), .dat tI ((tryF x.2.1 (x.2.2.1, (x.2.2.2.1, (x.2.2.2.2.1, x.2.2.2.2.2.1))) (List.length x.2.1 - List.length x.1) x.1 (x.2.2.2.2.2.2.1, (x.2.2.2.2.2.2.2.1, (x.2.2.2.2.2.2.2.2.1, (x.2.2.2.2.2.2.2.2.2.1, (x.2.2.2.2.2.2.2.2.2.2.1, x.2.2.2.2.2.2.2.2.2.2.2.1)))))).2.2.2.2.2)]), (4, .box [.clos 68 [.ptr 0 0, .ptr 1 0, .ptr 2 0, .ptr 3 0, .ptr 4 0]])]⟩)
noncomputable def En68e : Env := En68d.add 68 S68e
noncomputable def I25 : FnI := ⟨En68e, ⟨[], [], []⟩, Tryd.f25, codeOf Tryd.f25, [.data (.slice .str), .data tI], 0⟩
noncomputable def S25 : Spec := genS [true] true ⟨[.undef], []⟩ [tPrgm] (fun x => decide (List.length x.1.1 ≤ 5) && partsOk x.1.1) (fun x => ⟨[.dat (.slice .str) ((bestR x.1).1), .dat tI ((bestR x.1).2)], []⟩)
noncomputable def En25 : Env := En68e.add 25 S25
noncomputable def I26 : FnI := ⟨En25, ⟨[(0, [1, 4, 5, 6], [])], [], []⟩, Tryd.f26, codeOf Tryd.f26, [.data tI, .data tI], 0⟩
noncomputable def S26 : Spec := genS [true] false ⟨[.undef], []⟩ [tPrgm] (fun x => decide (List.length x.1.1 ≤ 1000)) (fun x => ⟨[.dat tI ((halfR x.1).1), .dat tI ((halfR x.1).2)], []⟩)
noncomputable def En26 : Env := En25.add 26 S26
noncomputable def I27 : FnI := ⟨En26, ⟨[(0, [0, 1, 12, 13], [])], [], []⟩, Tryd.f27, codeOf Tryd.f27, [.data .bool], 0⟩
noncomputable def S27 : Spec := genS [true, true] false ⟨[.undef, .undef], []⟩ [(.slice .str), (.slice .str)] (fun x => decide (List.length x.1 ≤ 1000)) (fun x => ⟨[.dat .bool (x.1 == x.2.1)], []⟩)
noncomputable def En27 : Env := En26.add 27 S27
noncomputable def I28 : FnI := ⟨En27, ⟨[(0, [0, 1, 5, 9, 10], [(5, tI)]), (2, [0, 5, 7], [])], [], []⟩, Tryd.f28, codeOf Tryd.f28, [.data (.slice tI)], 1⟩
noncomputable def aOrder (L : List Int) (at_ n : Int) : Int × List Int := Classical.epsilon fun p => (at_ ≤ p.1 ∧ p.1 ≤ at_ + 10 ∧ p.2.length = n.toNat ∧ ∀ x ∈ p.2, 0 ≤ x ∧ x < n) ∧
  I28.run ⟨[.ptr 0 0, .dat tI n], [(0, .box [.dat (.slice tI) L, .dat tI at_])]⟩ = some ⟨[.dat (.slice tI) p.2], [(0, .box [.dat (.slice tI) L, .dat tI p.1])]⟩
noncomputable def S28 : Spec := genS [false, true] true ⟨[.ptr 0 0, .undef], [(0, .box [.undef, .undef])]⟩ [tI, (.slice tI), tI] (fun x => atOk 100 x.2.2.1 && decide (0 ≤ x.1) && decide (x.1 ≤ 5)) (fun x => ⟨[.dat (.slice tI) ((aOrder x.2.1 x.2.2.1 x.1).2)], [(0, .box [.dat (.slice tI) (x.2.1), .dat tI ((aOrder x.2.1 x.2.2.1 x.1).1)])]⟩)
noncomputable def En28 : Env := En27.add 28 S28
noncomputable def I96 : FnI := ⟨En28, ⟨[], [], []⟩, Tryd.f96, codeOf Tryd.f96, [.data .bool], 1⟩
noncomputable def S96 : Spec := genS [true] true ⟨[.undef, .ptr 0 0], [(0, .box [.undef])]⟩ [tItem, .str] (fun x => true) (fun x => ⟨[.dat .bool (t96_0 x.1 x.2.1)], [(0, .box [.dat .str x.2.1])]⟩)
noncomputable def En96 : Env := En28.add 96 S96
noncomputable def I88b : FnI := ⟨En96, ⟨[(0, [0, 1, 7, 8], [])], [], []⟩, Tryd.f88, codeOf Tryd.f88, [.data tI], 1⟩
noncomputable def S88b : Spec := genS [false, false] true ⟨[.undef, .clos 96 [.ptr 0 0]], [(0, .box [.undef])]⟩ [(.slice tItem), .str] (fun x => decide (List.length x.1 ≤ 1000)) (fun x => ⟨[.dat tI (idxBy (fun o => t96_0 o x.2.1) x.1 0)], [(0, .box [.dat .str (x.2.1)])]⟩)
noncomputable def SS88b : Spec := orS SS88a S88b
noncomputable def En88b : Env := En96.add 88 SS88b
noncomputable def I69 : FnI := ⟨En88b, ⟨[], [], []⟩, Tryd.f69, codeOf Tryd.f69, [.data tI], 0⟩
noncomputable def S69 : Spec := genS [true, true] false ⟨[.undef, .undef], []⟩ [tPrgm, .str] (fun x => t69_ok x.1 x.2.1) (fun x => ⟨[.dat tI (t69_0 x.1 x.2.1)], []⟩)
noncomputable def En69 : Env := En88b.add 69 S69
noncomputable def I71 : FnI := ⟨En69, ⟨[], [], []⟩, Tryd.f71, codeOf Tryd.f71, [.data tItem], 0⟩
noncomputable def S71 : Spec := genS [true] true ⟨[.undef], []⟩ [tItem] (fun x => t71_ok x.1) (fun x => ⟨[.dat tItem (t71_0 x.1)], []⟩)
noncomputable def En71 : Env := En69.add 71 S71
noncomputable def I32 : FnI := ⟨En71, ⟨[(0, [1, 2, 4, 7, 26, 27, 28], [])], [], [(2, [(0, tItem)]), (4, [(0, tItem)]), (7, [(0, tItem)]), (15, [(0, tItem)]), (23, [(0, tItem)]), (38, [(0, tItem)]), (44, [(0, tItem)])]⟩, Tryd.f32, codeOf Tryd.f32, [.data tPrgm, .data tI], 0⟩
noncomputable def S32 : Spec := genS [true, true] true ⟨[.undef, .undef], []⟩ [tPrgm, (.slice .str)] (fun x => decide (List.length x.2.1 ≤ 1000)) (fun x => ⟨[.dat tPrgm ((movP x.1 x.2.1).1), .dat tI ((movP x.1 x.2.1).2)], []⟩)
noncomputable def En32 : Env := En71.add 32 S32
noncomputable def I33 : FnI := ⟨En32, ⟨[(0, [1, 2, 4, 6, 17, 18, 19], [(6, tItem)])], [], [(2, [(0, tItem)]), (4, [(0, tItem)]), (16, [(0, tItem)]), (31, [(0, tItem)]), (38, [(0, tItem)])]⟩, Tryd.f33, codeOf Tryd.f33, [.data tPrgm, .data tI], 0⟩
noncomputable def S33 : Spec := genS [true, true] true ⟨[.undef, .undef], []⟩ [tPrgm, (.slice .str)] (fun x => decide (List.length x.1.1 ≤ 1000) && decide (List.length x.2.1 ≤ 1000)) (fun x => ⟨[.dat tPrgm ((movR x.1 x.2.1).1), .dat tI ((movR x.1 x.2.1).2)], []⟩)
noncomputable def En33 : Env := En32.add 33 S33
noncomputable def I73 : FnI := ⟨En33, ⟨[], [], []⟩, Tryd.f73, codeOf Tryd.f73, [.data .bool], 0⟩
noncomputable def S73 : Spec := genS [true, true] false ⟨[.undef, .undef], []⟩ [tItem, tItem] (fun x => decide (List.length x.1.2.2.2 ≤ 1000)) (fun x => ⟨[.dat .bool (x.1 == x.2.1)], []⟩)
noncomputable def En73 : Env := En33.add 73 S73
noncomputable def I72 : FnI := ⟨En73, ⟨[(0, [1, 2, 15, 16, 17], [])], [], []⟩, Tryd.f72, codeOf Tryd.f72, [.data .bool], 0⟩
noncomputable def S72 : Spec := genS [true, true, false] true ⟨[.undef, .undef, .clos 73 []], []⟩ [(.slice tItem), (.slice tItem)] (fun x => decide (List.length x.1 ≤ 1000) && partsOk x.1) (fun x => ⟨[.dat .bool (x.1 == x.2.1)], []⟩)
noncomputable def En72 : Env := En73.add 72 S72
noncomputable def I34 : FnI := ⟨En72, ⟨[], [], []⟩, Tryd.f34, codeOf Tryd.f34, [.data .bool], 0⟩
noncomputable def S34 : Spec := genS [true, true] false ⟨[.undef, .undef], []⟩ [tPrgm, tPrgm] (fun x => decide (List.length x.1.1 ≤ 1000) && partsOk x.1.1) (fun x => ⟨[.dat .bool (x.1 == x.2.1)], []⟩)
noncomputable def En34 : Env := En72.add 34 S34
noncomputable def I4 : FnI := ⟨En34, ⟨[(0, [3, 4, 11, 18, 107, 108, 109], [(18, .str)])], [], []⟩, Tryd.f4, codeOf Tryd.f4, [.data .bool], 0⟩
noncomputable def S4 : Spec := genS [true] false ⟨[.undef], []⟩ [(.slice tI)] (fun x => true) (fun x => ⟨[.dat .bool true], []⟩)
end Go.Ev.M

set_option linter.unusedVariables false
set_option linter.unusedSimpArgs false
set_option maxRecDepth 100000
namespace Go.Ev.M
open Go Go.Ev Go.Proofs
theorem f83_run (a0 : Int) (a1 : Int) : I83.run ⟨[.dat tI a0, .dat tI a1], []⟩ = (cond (decide (a1 < (1 : Int))) (some ⟨[.dat tI (0 : Int)], []⟩) (cond (a1 == 0) none (cond (decide ((Int.tmod a0 a1) < (0 : Int))) (some ⟨[.dat tI (wrap .i64 ((Int.tmod a0 a1) + a1))], []⟩) (some ⟨[.dat tI (Int.tmod a0 a1)], []⟩)))) := (I83.run_eq _).trans (by kernel_rfl)
theorem f41_run (a0 : Int) (L : (List Int)) (at_ : Int) : I41.run ⟨[.ptr 0 0, .dat tI a0], [(0, .box [.dat (.slice tI) L, .dat tI at_])]⟩ = (cond (((List.length L : Nat) : Int) == (0 : Int)) (some ⟨[.dat tI (below (wrap .i64 ((wrap .i64 (at_ + (1 : Int))) * (7919 : Int))) a0)], [(0, .box [.dat (.slice tI) L, .dat tI (wrap .i64 (at_ + (1 : Int)))])]⟩) (cond (((List.length L : Nat) : Int) == 0) none (cond (((List.length L : Nat) : Int) == 0) none (cond (decide ((0 : Int) ≤ (Int.tmod (wrap .i64 ((wrap .i64 (at_ + (1 : Int))) - (1 : Int))) ((List.length L : Nat) : Int)))) (cond (decide ((Int.tmod (wrap .i64 ((wrap .i64 (at_ + (1 : Int))) - (1 : Int))) ((List.length L : Nat) : Int)) < ((List.length L : Nat) : Int))) (some ⟨[.dat tI (below (wrap .i64 ((below (List.getD L (Int.toNat (Int.tmod (wrap .i64 ((wrap .i64 (at_ + (1 : Int))) - (1 : Int))) ((List.length L : Nat) : Int))) (Tc.dflt tI)) (1073741824 : Int)) + (wrap .i64 ((wrap .i64 (Int.tdiv (wrap .i64 ((wrap .i64 (at_ + (1 : Int))) - (1 : Int))) ((List.length L : Nat) : Int))) * (wrap .i64 ((7919 : Int) + (Int.tmod (wrap .i64 ((wrap .i64 (at_ + (1 : Int))) - (1 : Int))) ((List.length L : Nat) : Int)))))))) a0)], [(0, .box [.dat (.slice tI) L, .dat tI (wrap .i64 (at_ + (1 : Int)))])]⟩) none) none)))) := (I41.run_eq _).trans (by kernel_rfl)
theorem f29_run (a0 : Int) (L : (List Int)) (at_ : Int) : I29.run ⟨[.ptr 0 0, .dat tI a0], [(0, .box [.dat (.slice tI) L, .dat tI at_])]⟩ = (cond (atOk 1 at_) (some ⟨[.dat .bool ((next L at_ a0) == (0 : Int))], [(0, .box [.dat (.slice tI) (L), .dat tI (nextAt at_)])]⟩) none) := (I29.run_eq _).trans (by kernel_rfl)
theorem f30_run (a0 : (List Bytes)) (L : (List Int)) (at_ : Int) : I30.run ⟨[.ptr 0 0, .dat (.slice .str) a0], [(0, .box [.dat (.slice tI) L, .dat tI at_])]⟩ = (cond (atOk 1 at_) (cond (decide ((0 : Int) ≤ (next L at_ ((List.length a0 : Nat) : Int)))) (cond (decide ((next L at_ ((List.length a0 : Nat) : Int)) < ((List.length a0 : Nat) : Int))) (some ⟨[.dat .str (List.getD a0 (Int.toNat (next L at_ ((List.length a0 : Nat) : Int))) (Tc.dflt .str))], [(0, .box [.dat (.slice tI) (L), .dat tI (nextAt at_)])]⟩) none) none) none) := (I30.run_eq _).trans (by kernel_rfl)
theorem f35_run (a0 : (List Int)) (L : (List Int)) (at_ : Int) : I35.run ⟨[.ptr 0 0, .dat (.slice tI) a0], [(0, .box [.dat (.slice tI) L, .dat tI at_])]⟩ = (cond (atOk 1 at_) (cond (decide ((0 : Int) ≤ (next L at_ ((List.length a0 : Nat) : Int)))) (cond (decide ((next L at_ ((List.length a0 : Nat) : Int)) < ((List.length a0 : Nat) : Int))) (some ⟨[.dat tI (List.getD a0 (Int.toNat (next L at_ ((List.length a0 : Nat) : Int))) (Tc.dflt tI))], [(0, .box [.dat (.slice tI) (L), .dat tI (nextAt at_)])]⟩) none) none) none) := (I35.run_eq _).trans (by kernel_rfl)
noncomputable def f40h0 (x0 : (List Bytes)) (x1 : Int) (x2 : Int) (x3 : (List Int)) (x4 : Int) (x5 : Int) (x6 : Int) (x7 : Int) (x8 : Int) (x9 : Int) (x10 : Int) (x11 : Int) (x12 : Int) (x13 : (List Item)) : Option Fr := I40.hd 0 (mkF 83 [(0, .ptr 0 0), (4, .ptr 501 0), (5, .ptr 502 0), (23, .dat (.slice .str) x0), (24, .dat tI x1), (25, .dat tI x2)] [(0, .box [.dat (.slice tI) x3, .dat tI x4]), (501, .box [.nil0, .dat tI x5, .dat tI x6, .dat tI x7, .dat tI x8]), (502, .box [.slc 503, .dat tI x9, .dat tI x10, .dat tI x11, .dat tI x12]), (503, .arr tItem x13)])
noncomputable def f40h2 (x0 : (List Bytes)) (x1 : Int) (x2 : Int) (x3 : Int) (x4 : Int) (x5 : (List Int)) (x6 : Int) (x7 : Int) (x8 : Int) (x9 : Int) (x10 : Int) (x11 : Int) (x12 : Int) (x13 : Int) (x14 : Int) (x15 : Bytes) (x16 : Bytes) (x17 : Int) (x18 : (List Bytes)) (x19 : (List Item)) (x20 : (List Bytes)) : Option Fr := I40.hd 2 (mkF 83 [(0, .ptr 0 0), (4, .ptr 501 0), (5, .ptr 502 0), (8, .ptr 503 0), (23, .dat (.slice .str) x0), (24, .dat tI x1), (25, .dat tI x2), (39, .slc 504), (40, .dat tI x3), (41, .dat tI x4)] [(0, .box [.dat (.slice tI) x5, .dat tI x6]), (501, .box [.nil0, .dat tI x7, .dat tI x8, .dat tI x9, .dat tI x10]), (502, .box [.slc 505, .dat tI x11, .dat tI x12, .dat tI x13, .dat tI x14]), (503, .box [.dat .str x15, .dat .str x16, .dat tI x17, .slc 506]), (504, .arr .str x18), (505, .arr tItem x19), (506, .arr .str x20)])
theorem f40_run (a0 : Int) (L : (List Int)) (at_ : Int) : I40.run ⟨[.ptr 0 0, .dat tI a0], [(0, .box [.dat (.slice tI) L, .dat tI at_])]⟩ = (cond (atOk 1 at_ && decide (0 < List.length [(0 : Int), (30 : Int), (50 : Int)]) && decide (List.length [(0 : Int), (30 : Int), (50 : Int)] ≤ 1000)) (cond (atOk 1 (nextAt at_) && decide (0 < List.length [(0 : Int), (10 : Int), (30 : Int)]) && decide (List.length [(0 : Int), (10 : Int), (30 : Int)] ≤ 1000)) (cond (atOk 1 (nextAt (nextAt at_)) && decide (0 < List.length [(0 : Int), (100 : Int)]) && decide (List.length [(0 : Int), (100 : Int)] ≤ 1000)) (cond (decide ((0 : Int) ≤ (0 : Int))) (cond (decide ((0 : Int) ≤ a0)) (cond (decide (a0 ≤ ((List.length ([[99], [97], [100], [98], [101]] : List Bytes) : Nat) : Int))) (f40h0 (List.drop (Int.toNat (0 : Int)) (List.take (Int.toNat a0) ([[99], [97], [100], [98], [101]] : List Bytes))) ((List.length (List.drop (Int.toNat (0 : Int)) (List.take (Int.toNat a0) ([[99], [97], [100], [98], [101]] : List Bytes))) : Nat) : Int) (0 : Int) (((L))) (nextAt (nextAt (nextAt at_))) (0 : Int) (0 : Int) (0 : Int) (0 : Int) (pick L at_ [(0 : Int), (30 : Int), (50 : Int)]) (pick (L) (nextAt at_) [(0 : Int), (10 : Int), (30 : Int)]) (pick ((L)) (nextAt (nextAt at_)) [(0 : Int), (100 : Int)]) (-1 : Int) ([] : List Item)) none) none) none) none) none) none) := (I40.run_eq _).trans (by kernel_rfl)
theorem f40h0_eq (x0 : (List Bytes)) (x1 : Int) (x2 : Int) (x3 : (List Int)) (x4 : Int) (x5 : Int) (x6 : Int) (x7 : Int) (x8 : Int) (x9 : Int) (x10 : Int) (x11 : Int) (x12 : Int) (x13 : (List Item)) : f40h0 x0 x1 x2 x3 x4 x5 x6 x7 x8 x9 x10 x11 x12 x13 = (cond (decide (x2 < x1)) (cond (decide ((0 : Int) ≤ x2)) (cond (decide (x2 < ((List.length x0 : Nat) : Int))) (cond (atOk 1 x4) (cond (next x3 x4 (6 : Int) == 0) (f40h0 x0 x1 (wrap .i64 (x2 + (1 : Int))) (x3) (nextAt x4) x5 x6 x7 x8 x9 x10 x11 x12 x13) (cond (atOk 1 (nextAt x4) && decide (0 < List.length ([[114, 111, 119, 115], [114, 111, 119, 115], [99, 105, 114, 99, 108, 101]] : List Bytes)) && decide (List.length ([[114, 111, 119, 115], [114, 111, 119, 115], [99, 105, 114, 99, 108, 101]] : List Bytes) ≤ 1000)) (cond (atOk 1 (nextAt (nextAt x4)) && decide (0 < List.length [(50 : Int), (100 : Int), (100 : Int), (200 : Int)]) && decide (List.length [(50 : Int), (100 : Int), (100 : Int), (200 : Int)] ≤ 1000)) (f40h2 x0 x1 x2 ((List.length ([[97, 108, 116, 111], [98, 97, 115, 115], [115, 111, 108, 105]] : List Bytes) : Nat) : Int) (0 : Int) (((x3))) (nextAt (nextAt (nextAt x4))) x5 x6 x7 x8 x9 x10 x11 x12 (List.getD x0 (Int.toNat x2) (Tc.dflt .str)) (some_ (x3) (nextAt x4) ([[114, 111, 119, 115], [114, 111, 119, 115], [99, 105, 114, 99, 108, 101]] : List Bytes)) (pick ((x3)) (nextAt (nextAt x4)) [(50 : Int), (100 : Int), (100 : Int), (200 : Int)]) ([[97, 108, 116, 111], [98, 97, 115, 115], [115, 111, 108, 105]] : List Bytes) x13 ([] : List Bytes)) none) none)) none) none) none) (cond (decide (((List.length x13 : Nat) : Int) > (1 : Int))) (cond (atOk 1 x4) (cond (next x3 x4 (2 : Int) == 0) (cond (atOk 1 (nextAt x4)) (some ⟨[.agg [.slc 2, .dat tI x9, .dat tI x10, .dat tI x11, .dat tI (next (x3) (nextAt x4) (wrap .i64 (((List.length x13 : Nat) : Int) - (1 : Int))))]], [(0, .box [.dat (.slice tI) ((x3)), .dat tI (nextAt (nextAt x4))]), (2, .arr tItem x13)]⟩) none) (some ⟨[.agg [.slc 2, .dat tI x9, .dat tI x10, .dat tI x11, .dat tI x12]], [(0, .box [.dat (.slice tI) (x3), .dat tI (nextAt x4)]), (2, .arr tItem x13)]⟩)) none) (some ⟨[.agg [.slc 2, .dat tI x9, .dat tI x10, .dat tI x11, .dat tI x12]], [(0, .box [.dat (.slice tI) x3, .dat tI x4]), (2, .arr tItem x13)]⟩))) := hdEq (by kernel_rfl)
theorem f40h2_eq (x0 : (List Bytes)) (x1 : Int) (x2 : Int) (x3 : Int) (x4 : Int) (x5 : (List Int)) (x6 : Int) (x7 : Int) (x8 : Int) (x9 : Int) (x10 : Int) (x11 : Int) (x12 : Int) (x13 : Int) (x14 : Int) (x15 : Bytes) (x16 : Bytes) (x17 : Int) (x18 : (List Bytes)) (x19 : (List Item)) (x20 : (List Bytes)) : f40h2 x0 x1 x2 x3 x4 x5 x6 x7 x8 x9 x10 x11 x12 x13 x14 x15 x16 x17 x18 x19 x20 = (cond (decide (x4 < x3)) (cond (decide ((0 : Int) ≤ x4)) (cond (decide (x4 < ((List.length x18 : Nat) : Int))) (cond (decide ((Int.toNat x4) < List.length x18)) (cond (atOk 1 x6) (cond (next x5 x6 (2 : Int) == 0) (cond (decide ((List.length x20 + List.length ([(List.getD x18 (Int.toNat x4) (Tc.dflt .str))] : List Bytes)) * 16 ≤ 140737488355328)) (f40h2 x0 x1 x2 x3 (wrap .i64 (x4 + (1 : Int))) (x5) (nextAt x6) x7 x8 x9 x10 x11 x12 x13 x14 x15 x16 x17 x18 x19 (x20 ++ ([(List.getD x18 (Int.toNat x4) (Tc.dflt .str))] : List Bytes))) none) (f40h2 x0 x1 x2 x3 (wrap .i64 (x4 + (1 : Int))) (x5) (nextAt x6) x7 x8 x9 x10 x11 x12 x13 x14 x15 x16 x17 x18 x19 x20)) none) none) none) none) (cond (((List.length x20 : Nat) : Int) == (0 : Int)) (cond (decide ((List.length x19 + List.length ([(x15, (x16, (x17, ([[97, 108, 116, 111]] : List Bytes))))] : List Item)) * 64 ≤ 140737488355328)) (f40h0 x0 x1 (wrap .i64 (x2 + (1 : Int))) x5 x6 x7 x8 x9 x10 x11 x12 x13 x14 (x19 ++ ([(x15, (x16, (x17, ([[97, 108, 116, 111]] : List Bytes))))] : List Item))) none) (cond (decide ((List.length x19 + List.length ([(x15, (x16, (x17, x20)))] : List Item)) * 64 ≤ 140737488355328)) (f40h0 x0 x1 (wrap .i64 (x2 + (1 : Int))) x5 x6 x7 x8 x9 x10 x11 x12 x13 x14 (x19 ++ ([(x15, (x16, (x17, x20)))] : List Item))) none))) := hdEq (by kernel_rfl)
theorem f31_run (a0 : Int) (a1 : Int) (L : (List Int)) (at_ : Int) : I31.run ⟨[.ptr 0 0, .dat tI a0, .dat tI a1], [(0, .box [.dat (.slice tI) L, .dat tI at_])]⟩ = (cond (decide (a1 < a0)) (some ⟨[.dat tI a0], [(0, .box [.dat (.slice tI) L, .dat tI at_])]⟩) (cond (atOk 1 at_) (some ⟨[.dat tI (wrap .i64 (a0 + (next L at_ (wrap .i64 ((wrap .i64 (a1 - a0)) + (1 : Int))))))], [(0, .box [.dat (.slice tI) (L), .dat tI (nextAt at_)])]⟩) none)) := (I31.run_eq _).trans (by kernel_rfl)
theorem f42_run (a0 : Int) (a1 : Int) (L : (List Int)) (at_ : Int) : I42.run ⟨[.ptr 0 0, .dat tI a0, .dat tI a1], [(0, .box [.dat (.slice tI) L, .dat tI at_])]⟩ = (cond (atOk 1 at_) (cond (next L at_ (12 : Int) == 0) (cond (atOk 1 (nextAt at_) && decide (0 < List.length [(wrap .i64 (a0 - (1 : Int))), (wrap .i64 (a1 + (1 : Int))), a0, a1, (-1099511627776 : Int), (1099511627776 : Int)]) && decide (List.length [(wrap .i64 (a0 - (1 : Int))), (wrap .i64 (a1 + (1 : Int))), a0, a1, (-1099511627776 : Int), (1099511627776 : Int)] ≤ 1000)) (some ⟨[.dat tI (pick (L) (nextAt at_) [(wrap .i64 (a0 - (1 : Int))), (wrap .i64 (a1 + (1 : Int))), a0, a1, (-1099511627776 : Int), (1099511627776 : Int)])], [(0, .box [.dat (.slice tI) ((L)), .dat tI (nextAt (nextAt at_))])]⟩) none) (cond (atOk 1 (nextAt at_)) (some ⟨[.dat tI (rangeS (L) (nextAt at_) a0 a1)], [(0, .box [.dat (.slice tI) ((L)), .dat tI (rangeAt (nextAt at_) a0 a1)])]⟩) none)) none) := (I42.run_eq _).trans (by kernel_rfl)
theorem f43_run (a0 : (List Bytes)) : I43.run ⟨[.dat (.slice .str) a0], []⟩ = (cond (List.isEmpty a0) (both (some ⟨[.slc 0], [(0, .arr .str ([] : List Bytes))]⟩) (cond (decide ((List.length ([] : List Bytes) + List.length a0) * 16 ≤ 140737488355328)) (some ⟨[.slc 0], [(0, .arr .str (([] : List Bytes) ++ a0))]⟩) none)) (cond (decide ((List.length ([] : List Bytes) + List.length a0) * 16 ≤ 140737488355328)) (some ⟨[.slc 0], [(0, .arr .str (([] : List Bytes) ++ a0))]⟩) none)) := (I43.run_eq _).trans (by kernel_rfl)
theorem f6_run (a0 : Int) (L : (List Int)) (at_ : Int) : I6.run ⟨[.ptr 0 0, .dat tI a0], [(0, .box [.dat (.slice tI) L, .dat tI at_])]⟩ = (cond (atOk 1000 at_ && decide (0 ≤ a0) && decide (a0 ≤ 5)) (cond (atOk 1 ((rightP L at_ a0).1)) (cond (next (L) ((rightP L at_ a0).1) (12 : Int) == 0) (cond (atOk 1 (nextAt ((rightP L at_ a0).1))) (cond ((next ((L)) (nextAt ((rightP L at_ a0).1)) (3 : Int)) == (0 : Int)) (cond (atOk 8 (nextAt (nextAt ((rightP L at_ a0).1)))) (some ⟨[.dat tPrgm (((rightP L at_ a0).2.1), (((rightP L at_ a0).2.2.1), (((rightP L at_ a0).2.2.2.1), (((rightP L at_ a0).2.2.2.2.1), ((oddS (((L))) (nextAt (nextAt ((rightP L at_ a0).1))) (-1 : Int) (4 : Int)).2)))))], [(0, .box [.dat (.slice tI) ((((L)))), .dat tI ((oddS (((L))) (nextAt (nextAt ((rightP L at_ a0).1))) (-1 : Int) (4 : Int)).1)])]⟩) none) (cond ((next ((L)) (nextAt ((rightP L at_ a0).1)) (3 : Int)) == (1 : Int)) (cond (atOk 8 (nextAt (nextAt ((rightP L at_ a0).1)))) (cond (atOk 8 ((oddS (((L))) (nextAt (nextAt ((rightP L at_ a0).1))) (0 : Int) (86400000 : Int)).1)) (cond (atOk 8 ((oddS ((((L)))) ((oddS (((L))) (nextAt (nextAt ((rightP L at_ a0).1))) (0 : Int) (86400000 : Int)).1) (0 : Int) (86400000 : Int)).1)) (some ⟨[.dat tPrgm (((rightP L at_ a0).2.1), (((oddS (((L))) (nextAt (nextAt ((rightP L at_ a0).1))) (0 : Int) (86400000 : Int)).2), (((oddS ((((L)))) ((oddS (((L))) (nextAt (nextAt ((rightP L at_ a0).1))) (0 : Int) (86400000 : Int)).1) (0 : Int) (86400000 : Int)).2), (((oddS (((((L))))) ((oddS ((((L)))) ((oddS (((L))) (nextAt (nextAt ((rightP L at_ a0).1))) (0 : Int) (86400000 : Int)).1) (0 : Int) (86400000 : Int)).1) (0 : Int) (86400000 : Int)).2), ((rightP L at_ a0).2.2.2.2.2)))))], [(0, .box [.dat (.slice tI) ((((((L)))))), .dat tI ((oddS (((((L))))) ((oddS ((((L)))) ((oddS (((L))) (nextAt (nextAt ((rightP L at_ a0).1))) (0 : Int) (86400000 : Int)).1) (0 : Int) (86400000 : Int)).1) (0 : Int) (86400000 : Int)).1)])]⟩) none) none) none) (cond (decide (((List.length ((rightP L at_ a0).2.1) : Nat) : Int) > (0 : Int))) (cond (atOk 1 (nextAt (nextAt ((rightP L at_ a0).1)))) (cond (decide ((0 : Int) ≤ (next (((L))) (nextAt (nextAt ((rightP L at_ a0).1))) ((List.length ((rightP L at_ a0).2.1) : Nat) : Int)))) (cond (decide ((next (((L))) (nextAt (nextAt ((rightP L at_ a0).1))) ((List.length ((rightP L at_ a0).2.1) : Nat) : Int)) < ((List.length ((rightP L at_ a0).2.1) : Nat) : Int))) (cond (decide ((Int.toNat (next (((L))) (nextAt (nextAt ((rightP L at_ a0).1))) ((List.length ((rightP L at_ a0).2.1) : Nat) : Int))) < List.length ((rightP L at_ a0).2.1))) (cond (decide ((Int.toNat (next (((L))) (nextAt (nextAt ((rightP L at_ a0).1))) ((List.length ((rightP L at_ a0).2.1) : Nat) : Int))) < List.length ((rightP L at_ a0).2.1))) (cond (decide ((Int.toNat (next (((L))) (nextAt (nextAt ((rightP L at_ a0).1))) ((List.length ((rightP L at_ a0).2.1) : Nat) : Int))) < List.length ((rightP L at_ a0).2.1))) (cond (atOk 1 (nextAt (nextAt (nextAt ((rightP L at_ a0).1)))) && decide (0 < List.length ([(List.getD ((rightP L at_ a0).2.1) (Int.toNat (next (((L))) (nextAt (nextAt ((rightP L at_ a0).1))) ((List.length ((rightP L at_ a0).2.1) : Nat) : Int))) (Tc.dflt tItem)).1, [], [97]] : List Bytes)) && decide (List.length ([(List.getD ((rightP L at_ a0).2.1) (Int.toNat (next (((L))) (nextAt (nextAt ((rightP L at_ a0).1))) ((List.length ((rightP L at_ a0).2.1) : Nat) : Int))) (Tc.dflt tItem)).1, [], [97]] : List Bytes) ≤ 1000)) (cond (atOk 8 (nextAt (nextAt (nextAt (nextAt ((rightP L at_ a0).1)))))) (cond (decide ((Int.toNat (next (((L))) (nextAt (nextAt ((rightP L at_ a0).1))) ((List.length ((rightP L at_ a0).2.1) : Nat) : Int))) < List.length ((rightP L at_ a0).2.1))) (cond (decide ((Int.toNat (next (((L))) (nextAt (nextAt ((rightP L at_ a0).1))) ((List.length ((rightP L at_ a0).2.1) : Nat) : Int))) < List.length ((rightP L at_ a0).2.1))) (cond (decide ((Int.toNat (next (((L))) (nextAt (nextAt ((rightP L at_ a0).1))) ((List.length ((rightP L at_ a0).2.1) : Nat) : Int))) < List.length ((rightP L at_ a0).2.1))) (cond (decide (List.length (List.getD ((rightP L at_ a0).2.1) (Int.toNat (next (((L))) (nextAt (nextAt ((rightP L at_ a0).1))) ((List.length ((rightP L at_ a0).2.1) : Nat) : Int))) (Tc.dflt tItem)).2.2.2 ≤ 1000)) (cond (atOk 1 ((oddS (((((L))))) (nextAt (nextAt (nextAt (nextAt ((rightP L at_ a0).1))))) (1 : Int) (86400000 : Int)).1) && decide (0 < List.length ([[122, 122], [], [97, 108, 116, 111]] : List Bytes)) && decide (List.length ([[122, 122], [], [97, 108, 116, 111]] : List Bytes) ≤ 1000)) (cond (decide ((List.length ((List.getD ((rightP L at_ a0).2.1) (Int.toNat (next (((L))) (nextAt (nextAt ((rightP L at_ a0).1))) ((List.length ((rightP L at_ a0).2.1) : Nat) : Int))) (Tc.dflt tItem)).2.2.2) + List.length ([(some_ ((((((L)))))) ((oddS (((((L))))) (nextAt (nextAt (nextAt (nextAt ((rightP L at_ a0).1))))) (1 : Int) (86400000 : Int)).1) ([[122, 122], [], [97, 108, 116, 111]] : List Bytes))] : List Bytes)) * 16 ≤ 140737488355328)) (cond (decide ((Int.toNat (next (((L))) (nextAt (nextAt ((rightP L at_ a0).1))) ((List.length ((rightP L at_ a0).2.1) : Nat) : Int))) < List.length ((rightP L at_ a0).2.1))) (cond (decide ((Int.toNat (next (((L))) (nextAt (nextAt ((rightP L at_ a0).1))) ((List.length ((rightP L at_ a0).2.1) : Nat) : Int))) < List.length ((rightP L at_ a0).2.1))) (cond (decide ((Int.toNat (next (((L))) (nextAt (nextAt ((rightP L at_ a0).1))) ((List.length ((rightP L at_ a0).2.1) : Nat) : Int))) < List.length ((rightP L at_ a0).2.1))) (cond (decide ((Int.toNat (next (((L))) (nextAt (nextAt ((rightP L at_ a0).1))) ((List.length ((rightP L at_ a0).2.1) : Nat) : Int))) < List.length (List.set ((rightP L at_ a0).2.1) (Int.toNat (next (((L))) (nextAt (nextAt ((rightP L at_ a0).1))) ((List.length ((rightP L at_ a0).2.1) : Nat) : Int))) ((some_ ((((L)))) (nextAt (nextAt (nextAt ((rightP L at_ a0).1)))) ([(List.getD ((rightP L at_ a0).2.1) (Int.toNat (next (((L))) (nextAt (nextAt ((rightP L at_ a0).1))) ((List.length ((rightP L at_ a0).2.1) : Nat) : Int))) (Tc.dflt tItem)).1, [], [97]] : List Bytes)), (List.getD ((rightP L at_ a0).2.1) (Int.toNat (next (((L))) (nextAt (nextAt ((rightP L at_ a0).1))) ((List.length ((rightP L at_ a0).2.1) : Nat) : Int))) (Tc.dflt tItem)).2)))) (cond (decide ((Int.toNat (next (((L))) (nextAt (nextAt ((rightP L at_ a0).1))) ((List.length ((rightP L at_ a0).2.1) : Nat) : Int))) < List.length (List.set ((rightP L at_ a0).2.1) (Int.toNat (next (((L))) (nextAt (nextAt ((rightP L at_ a0).1))) ((List.length ((rightP L at_ a0).2.1) : Nat) : Int))) ((some_ ((((L)))) (nextAt (nextAt (nextAt ((rightP L at_ a0).1)))) ([(List.getD ((rightP L at_ a0).2.1) (Int.toNat (next (((L))) (nextAt (nextAt ((rightP L at_ a0).1))) ((List.length ((rightP L at_ a0).2.1) : Nat) : Int))) (Tc.dflt tItem)).1, [], [97]] : List Bytes)), (List.getD ((rightP L at_ a0).2.1) (Int.toNat (next (((L))) (nextAt (nextAt ((rightP L at_ a0).1))) ((List.length ((rightP L at_ a0).2.1) : Nat) : Int))) (Tc.dflt tItem)).2)))) (cond (decide ((Int.toNat (next (((L))) (nextAt (nextAt ((rightP L at_ a0).1))) ((List.length ((rightP L at_ a0).2.1) : Nat) : Int))) < List.length (List.set ((rightP L at_ a0).2.1) (Int.toNat (next (((L))) (nextAt (nextAt ((rightP L at_ a0).1))) ((List.length ((rightP L at_ a0).2.1) : Nat) : Int))) ((some_ ((((L)))) (nextAt (nextAt (nextAt ((rightP L at_ a0).1)))) ([(List.getD ((rightP L at_ a0).2.1) (Int.toNat (next (((L))) (nextAt (nextAt ((rightP L at_ a0).1))) ((List.length ((rightP L at_ a0).2.1) : Nat) : Int))) (Tc.dflt tItem)).1, [], [97]] : List Bytes)), (List.getD ((rightP L at_ a0).2.1) (Int.toNat (next (((L))) (nextAt (nextAt ((rightP L at_ a0).1))) ((List.length ((rightP L at_ a0).2.1) : Nat) : Int))) (Tc.dflt tItem)).2)))) (cond (decide ((Int.toNat (next (((L))) (nextAt (nextAt ((rightP L at_ a0).1))) ((List.length ((rightP L at_ a0).2.1) : Nat) : Int))) < List.length (List.set (List.set ((rightP L at_ a0).2.1) (Int.toNat (next (((L))) (nextAt (nextAt ((rightP L at_ a0).1))) ((List.length ((rightP L at_ a0).2.1) : Nat) : Int))) ((some_ ((((L)))) (nextAt (nextAt (nextAt ((rightP L at_ a0).1)))) ([(List.getD ((rightP L at_ a0).2.1) (Int.toNat (next (((L))) (nextAt (nextAt ((rightP L at_ a0).1))) ((List.length ((rightP L at_ a0).2.1) : Nat) : Int))) (Tc.dflt tItem)).1, [], [97]] : List Bytes)), (List.getD ((rightP L at_ a0).2.1) (Int.toNat (next (((L))) (nextAt (nextAt ((rightP L at_ a0).1))) ((List.length ((rightP L at_ a0).2.1) : Nat) : Int))) (Tc.dflt tItem)).2)) (Int.toNat (next (((L))) (nextAt (nextAt ((rightP L at_ a0).1))) ((List.length ((rightP L at_ a0).2.1) : Nat) : Int))) ((List.getD (List.set ((rightP L at_ a0).2.1) (Int.toNat (next (((L))) (nextAt (nextAt ((rightP L at_ a0).1))) ((List.length ((rightP L at_ a0).2.1) : Nat) : Int))) ((some_ ((((L)))) (nextAt (nextAt (nextAt ((rightP L at_ a0).1)))) ([(List.getD ((rightP L at_ a0).2.1) (Int.toNat (next (((L))) (nextAt (nextAt ((rightP L at_ a0).1))) ((List.length ((rightP L at_ a0).2.1) : Nat) : Int))) (Tc.dflt tItem)).1, [], [97]] : List Bytes)), (List.getD ((rightP L at_ a0).2.1) (Int.toNat (next (((L))) (nextAt (nextAt ((rightP L at_ a0).1))) ((List.length ((rightP L at_ a0).2.1) : Nat) : Int))) (Tc.dflt tItem)).2)) (Int.toNat (next (((L))) (nextAt (nextAt ((rightP L at_ a0).1))) ((List.length ((rightP L at_ a0).2.1) : Nat) : Int))) (Tc.dflt tItem)).1, ((List.getD (List.set ((rightP L at_ a0).2.1) (Int.toNat (next (((L))) (nextAt (nextAt ((rightP L at_ a0).1))) ((List.length ((rightP L at_ a0).2.1) : Nat) : Int))) ((some_ ((((L)))) (nextAt (nextAt (nextAt ((rightP L at_ a0).1)))) ([(List.getD ((rightP L at_ a0).2.1) (Int.toNat (next (((L))) (nextAt (nextAt ((rightP L at_ a0).1))) ((List.length ((rightP L at_ a0).2.1) : Nat) : Int))) (Tc.dflt tItem)).1, [], [97]] : List Bytes)), (List.getD ((rightP L at_ a0).2.1) (Int.toNat (next (((L))) (nextAt (nextAt ((rightP L at_ a0).1))) ((List.length ((rightP L at_ a0).2.1) : Nat) : Int))) (Tc.dflt tItem)).2)) (Int.toNat (next (((L))) (nextAt (nextAt ((rightP L at_ a0).1))) ((List.length ((rightP L at_ a0).2.1) : Nat) : Int))) (Tc.dflt tItem)).2.1, (((oddS (((((L))))) (nextAt (nextAt (nextAt (nextAt ((rightP L at_ a0).1))))) (1 : Int) (86400000 : Int)).2), (List.getD (List.set ((rightP L at_ a0).2.1) (Int.toNat (next (((L))) (nextAt (nextAt ((rightP L at_ a0).1))) ((List.length ((rightP L at_ a0).2.1) : Nat) : Int))) ((some_ ((((L)))) (nextAt (nextAt (nextAt ((rightP L at_ a0).1)))) ([(List.getD ((rightP L at_ a0).2.1) (Int.toNat (next (((L))) (nextAt (nextAt ((rightP L at_ a0).1))) ((List.length ((rightP L at_ a0).2.1) : Nat) : Int))) (Tc.dflt tItem)).1, [], [97]] : List Bytes)), (List.getD ((rightP L at_ a0).2.1) (Int.toNat (next (((L))) (nextAt (nextAt ((rightP L at_ a0).1))) ((List.length ((rightP L at_ a0).2.1) : Nat) : Int))) (Tc.dflt tItem)).2)) (Int.toNat (next (((L))) (nextAt (nextAt ((rightP L at_ a0).1))) ((List.length ((rightP L at_ a0).2.1) : Nat) : Int))) (Tc.dflt tItem)).2.2.2)))))) (cond (decide ((Int.toNat (next (((L))) (nextAt (nextAt ((rightP L at_ a0).1))) ((List.length ((rightP L at_ a0).2.1) : Nat) : Int))) < List.length (List.set (List.set ((rightP L at_ a0).2.1) (Int.toNat (next (((L))) (nextAt (nextAt ((rightP L at_ a0).1))) ((List.length ((rightP L at_ a0).2.1) : Nat) : Int))) ((some_ ((((L)))) (nextAt (nextAt (nextAt ((rightP L at_ a0).1)))) ([(List.getD ((rightP L at_ a0).2.1) (Int.toNat (next (((L))) (nextAt (nextAt ((rightP L at_ a0).1))) ((List.length ((rightP L at_ a0).2.1) : Nat) : Int))) (Tc.dflt tItem)).1, [], [97]] : List Bytes)), (List.getD ((rightP L at_ a0).2.1) (Int.toNat (next (((L))) (nextAt (nextAt ((rightP L at_ a0).1))) ((List.length ((rightP L at_ a0).2.1) : Nat) : Int))) (Tc.dflt tItem)).2)) (Int.toNat (next (((L))) (nextAt (nextAt ((rightP L at_ a0).1))) ((List.length ((rightP L at_ a0).2.1) : Nat) : Int))) ((List.getD (List.set ((rightP L at_ a0).2.1) (Int.toNat (next (((L))) (nextAt (nextAt ((rightP L at_ a0).1))) ((List.length ((rightP L at_ a0).2.1) : Nat) : Int))) ((some_ ((((L)))) (nextAt (nextAt (nextAt ((rightP L at_ a0).1)))) ([(List.getD ((rightP L at_ a0).2.1) (Int.toNat (next (((L))) (nextAt (nextAt ((rightP L at_ a0).1))) ((List.length ((rightP L at_ a0).2.1) : Nat) : Int))) (Tc.dflt tItem)).1, [], [97]] : List Bytes)), (List.getD ((rightP L at_ a0).2.1) (Int.toNat (next (((L))) (nextAt (nextAt ((rightP L at_ a0).1))) ((List.length ((rightP L at_ a0).2.1) : Nat) : Int))) (Tc.dflt tItem)).2)) (Int.toNat (next (((L))) (nextAt (nextAt ((rightP L at_ a0).1))) ((List.length ((rightP L at_ a0).2.1) : Nat) : Int))) (Tc.dflt tItem)).1, ((List.getD (List.set ((rightP L at_ a0).2.1) (Int.toNat (next (((L))) (nextAt (nextAt ((rightP L at_ a0).1))) ((List.length ((rightP L at_ a0).2.1) : Nat) : Int))) ((some_ ((((L)))) (nextAt (nextAt (nextAt ((rightP L at_ a0).1)))) ([(List.getD ((rightP L at_ a0).2.1) (Int.toNat (next (((L))) (nextAt (nextAt ((rightP L at_ a0).1))) ((List.length ((rightP L at_ a0).2.1) : Nat) : Int))) (Tc.dflt tItem)).1, [], [97]] : List Bytes)), (List.getD ((rightP L at_ a0).2.1) (Int.toNat (next (((L))) (nextAt (nextAt ((rightP L at_ a0).1))) ((List.length ((rightP L at_ a0).2.1) : Nat) : Int))) (Tc.dflt tItem)).2)) (Int.toNat (next (((L))) (nextAt (nextAt ((rightP L at_ a0).1))) ((List.length ((rightP L at_ a0).2.1) : Nat) : Int))) (Tc.dflt tItem)).2.1, (((oddS (((((L))))) (nextAt (nextAt (nextAt (nextAt ((rightP L at_ a0).1))))) (1 : Int) (86400000 : Int)).2), (List.getD (List.set ((rightP L at_ a0).2.1) (Int.toNat (next (((L))) (nextAt (nextAt ((rightP L at_ a0).1))) ((List.length ((rightP L at_ a0).2.1) : Nat) : Int))) ((some_ ((((L)))) (nextAt (nextAt (nextAt ((rightP L at_ a0).1)))) ([(List.getD ((rightP L at_ a0).2.1) (Int.toNat (next (((L))) (nextAt (nextAt ((rightP L at_ a0).1))) ((List.length ((rightP L at_ a0).2.1) : Nat) : Int))) (Tc.dflt tItem)).1, [], [97]] : List Bytes)), (List.getD ((rightP L at_ a0).2.1) (Int.toNat (next (((L))) (nextAt (nextAt ((rightP L at_ a0).1))) ((List.length ((rightP L at_ a0).2.1) : Nat) : Int))) (Tc.dflt tItem)).2)) (Int.toNat (next (((L))) (nextAt (nextAt ((rightP L at_ a0).1))) ((List.length ((rightP L at_ a0).2.1) : Nat) : Int))) (Tc.dflt tItem)).2.2.2)))))) (cond (decide ((Int.toNat (next (((L))) (nextAt (nextAt ((rightP L at_ a0).1))) ((List.length ((rightP L at_ a0).2.1) : Nat) : Int))) < List.length (List.set (List.set ((rightP L at_ a0).2.1) (Int.toNat (next (((L))) (nextAt (nextAt ((rightP L at_ a0).1))) ((List.length ((rightP L at_ a0).2.1) : Nat) : Int))) ((some_ ((((L)))) (nextAt (nextAt (nextAt ((rightP L at_ a0).1)))) ([(List.getD ((rightP L at_ a0).2.1) (Int.toNat (next (((L))) (nextAt (nextAt ((rightP L at_ a0).1))) ((List.length ((rightP L at_ a0).2.1) : Nat) : Int))) (Tc.dflt tItem)).1, [], [97]] : List Bytes)), (List.getD ((rightP L at_ a0).2.1) (Int.toNat (next (((L))) (nextAt (nextAt ((rightP L at_ a0).1))) ((List.length ((rightP L at_ a0).2.1) : Nat) : Int))) (Tc.dflt tItem)).2)) (Int.toNat (next (((L))) (nextAt (nextAt ((rightP L at_ a0).1))) ((List.length ((rightP L at_ a0).2.1) : Nat) : Int))) ((List.getD (List.set ((rightP L at_ a0).2.1) (Int.toNat (next (((L))) (nextAt (nextAt ((rightP L at_ a0).1))) ((List.length ((rightP L at_ a0).2.1) : Nat) : Int))) ((some_ ((((L)))) (nextAt (nextAt (nextAt ((rightP L at_ a0).1)))) ([(List.getD ((rightP L at_ a0).2.1) (Int.toNat (next (((L))) (nextAt (nextAt ((rightP L at_ a0).1))) ((List.length ((rightP L at_ a0).2.1) : Nat) : Int))) (Tc.dflt tItem)).1, [], [97]] : List Bytes)), (List.getD ((rightP L at_ a0).2.1) (Int.toNat (next (((L))) (nextAt (nextAt ((rightP L at_ a0).1))) ((List.length ((rightP L at_ a0).2.1) : Nat) : Int))) (Tc.dflt tItem)).2)) (Int.toNat (next (((L))) (nextAt (nextAt ((rightP L at_ a0).1))) ((List.length ((rightP L at_ a0).2.1) : Nat) : Int))) (Tc.dflt tItem)).1, ((List.getD (List.set ((rightP L at_ a0).2.1) (Int.toNat (next (((L))) (nextAt (nextAt ((rightP L at_ a0).1))) ((List.length ((rightP L at_ a0).2.1) : Nat) : Int))) ((some_ ((((L)))) (nextAt (nextAt (nextAt ((rightP L at_ a0).1)))) ([(List.getD ((rightP L at_ a0).2.1) (Int.toNat (next (((L))) (nextAt (nextAt ((rightP L at_ a0).1))) ((List.length ((rightP L at_ a0).2.1) : Nat) : Int))) (Tc.dflt tItem)).1, [], [97]] : List Bytes)), (List.getD ((rightP L at_ a0).2.1) (Int.toNat (next (((L))) (nextAt (nextAt ((rightP L at_ a0).1))) ((List.length ((rightP L at_ a0).2.1) : Nat) : Int))) (Tc.dflt tItem)).2)) (Int.toNat (next (((L))) (nextAt (nextAt ((rightP L at_ a0).1))) ((List.length ((rightP L at_ a0).2.1) : Nat) : Int))) (Tc.dflt tItem)).2.1, (((oddS (((((L))))) (nextAt (nextAt (nextAt (nextAt ((rightP L at_ a0).1))))) (1 : Int) (86400000 : Int)).2), (List.getD (List.set ((rightP L at_ a0).2.1) (Int.toNat (next (((L))) (nextAt (nextAt ((rightP L at_ a0).1))) ((List.length ((rightP L at_ a0).2.1) : Nat) : Int))) ((some_ ((((L)))) (nextAt (nextAt (nextAt ((rightP L at_ a0).1)))) ([(List.getD ((rightP L at_ a0).2.1) (Int.toNat (next (((L))) (nextAt (nextAt ((rightP L at_ a0).1))) ((List.length ((rightP L at_ a0).2.1) : Nat) : Int))) (Tc.dflt tItem)).1, [], [97]] : List Bytes)), (List.getD ((rightP L at_ a0).2.1) (Int.toNat (next (((L))) (nextAt (nextAt ((rightP L at_ a0).1))) ((List.length ((rightP L at_ a0).2.1) : Nat) : Int))) (Tc.dflt tItem)).2)) (Int.toNat (next (((L))) (nextAt (nextAt ((rightP L at_ a0).1))) ((List.length ((rightP L at_ a0).2.1) : Nat) : Int))) (Tc.dflt tItem)).2.2.2)))))) (some ⟨[.dat tPrgm ((List.set (List.set (List.set ((rightP L at_ a0).2.1) (Int.toNat (next (((L))) (nextAt (nextAt ((rightP L at_ a0).1))) ((List.length ((rightP L at_ a0).2.1) : Nat) : Int))) ((some_ ((((L)))) (nextAt (nextAt (nextAt ((rightP L at_ a0).1)))) ([(List.getD ((rightP L at_ a0).2.1) (Int.toNat (next (((L))) (nextAt (nextAt ((rightP L at_ a0).1))) ((List.length ((rightP L at_ a0).2.1) : Nat) : Int))) (Tc.dflt tItem)).1, [], [97]] : List Bytes)), (List.getD ((rightP L at_ a0).2.1) (Int.toNat (next (((L))) (nextAt (nextAt ((rightP L at_ a0).1))) ((List.length ((rightP L at_ a0).2.1) : Nat) : Int))) (Tc.dflt tItem)).2)) (Int.toNat (next (((L))) (nextAt (nextAt ((rightP L at_ a0).1))) ((List.length ((rightP L at_ a0).2.1) : Nat) : Int))) ((List.getD (List.set ((rightP L at_ a0).2.1) (Int.toNat (next (((L))) (nextAt (nextAt ((rightP L at_ a0).1))) ((List.length ((rightP L at_ a0).2.1) : Nat) : Int))) ((some_ ((((L)))) (nextAt (nextAt (nextAt ((rightP L at_ a0).1)))) ([(List.getD ((rightP L at_ a0).2.1) (Int.toNat (next (((L))) (nextAt (nextAt ((rightP L at_ a0).1))) ((List.length ((rightP L at_ a0).2.1) : Nat) : Int))) (Tc.dflt tItem)).1, [], [97]] : List Bytes)), (List.getD ((rightP L at_ a0).2.1) (Int.toNat (next (((L))) (nextAt (nextAt ((rightP L at_ a0).1))) ((List.length ((rightP L at_ a0).2.1) : Nat) : Int))) (Tc.dflt tItem)).2)) (Int.toNat (next (((L))) (nextAt (nextAt ((rightP L at_ a0).1))) ((List.length ((rightP L at_ a0).2.1) : Nat) : Int))) (Tc.dflt tItem)).1, ((List.getD (List.set ((rightP L at_ a0).2.1) (Int.toNat (next (((L))) (nextAt (nextAt ((rightP L at_ a0).1))) ((List.length ((rightP L at_ a0).2.1) : Nat) : Int))) ((some_ ((((L)))) (nextAt (nextAt (nextAt ((rightP L at_ a0).1)))) ([(List.getD ((rightP L at_ a0).2.1) (Int.toNat (next (((L))) (nextAt (nextAt ((rightP L at_ a0).1))) ((List.length ((rightP L at_ a0).2.1) : Nat) : Int))) (Tc.dflt tItem)).1, [], [97]] : List Bytes)), (List.getD ((rightP L at_ a0).2.1) (Int.toNat (next (((L))) (nextAt (nextAt ((rightP L at_ a0).1))) ((List.length ((rightP L at_ a0).2.1) : Nat) : Int))) (Tc.dflt tItem)).2)) (Int.toNat (next (((L))) (nextAt (nextAt ((rightP L at_ a0).1))) ((List.length ((rightP L at_ a0).2.1) : Nat) : Int))) (Tc.dflt tItem)).2.1, (((oddS (((((L))))) (nextAt (nextAt (nextAt (nextAt ((rightP L at_ a0).1))))) (1 : Int) (86400000 : Int)).2), (List.getD (List.set ((rightP L at_ a0).2.1) (Int.toNat (next (((L))) (nextAt (nextAt ((rightP L at_ a0).1))) ((List.length ((rightP L at_ a0).2.1) : Nat) : Int))) ((some_ ((((L)))) (nextAt (nextAt (nextAt ((rightP L at_ a0).1)))) ([(List.getD ((rightP L at_ a0).2.1) (Int.toNat (next (((L))) (nextAt (nextAt ((rightP L at_ a0).1))) ((List.length ((rightP L at_ a0).2.1) : Nat) : Int))) (Tc.dflt tItem)).1, [], [97]] : List Bytes)), (List.getD ((rightP L at_ a0).2.1) (Int.toNat (next (((L))) (nextAt (nextAt ((rightP L at_ a0).1))) ((List.length ((rightP L at_ a0).2.1) : Nat) : Int))) (Tc.dflt tItem)).2)) (Int.toNat (next (((L))) (nextAt (nextAt ((rightP L at_ a0).1))) ((List.length ((rightP L at_ a0).2.1) : Nat) : Int))) (Tc.dflt tItem)).2.2.2)))) (Int.toNat (next (((L))) (nextAt (nextAt ((rightP L at_ a0).1))) ((List.length ((rightP L at_ a0).2.1) : Nat) : Int))) ((List.getD (List.set (List.set ((rightP L at_ a0).2.1) (Int.toNat (next (((L))) (nextAt (nextAt ((rightP L at_ a0).1))) ((List.length ((rightP L at_ a0).2.1) : Nat) : Int))) ((some_ ((((L)))) (nextAt (nextAt (nextAt ((rightP L at_ a0).1)))) ([(List.getD ((rightP L at_ a0).2.1) (Int.toNat (next (((L))) (nextAt (nextAt ((rightP L at_ a0).1))) ((List.length ((rightP L at_ a0).2.1) : Nat) : Int))) (Tc.dflt tItem)).1, [], [97]] : List Bytes)), (List.getD ((rightP L at_ a0).2.1) (Int.toNat (next (((L))) (nextAt (nextAt ((rightP L at_ a0).1))) ((List.length ((rightP L at_ a0).2.1) : Nat) : Int))) (Tc.dflt tItem)).2)) (Int.toNat (next (((L))) (nextAt (nextAt ((rightP L at_ a0).1))) ((List.length ((rightP L at_ a0).2.1) : Nat) : Int))) ((List.getD (List.set ((rightP L at_ a0).2.1) (Int.toNat (next (((L))) (nextAt (nextAt ((rightP L at_ a0).1))) ((List.length ((rightP L at_ a0).2.1) : Nat) : Int))) ((some_ ((((L)))) (nextAt (nextAt (nextAt ((rightP L at_ a0).1)))) ([(List.getD ((rightP L at_ a0).2.1) (Int.toNat (next (((L))) (nextAt (nextAt ((rightP L at_ a0).1))) ((List.length ((rightP L at_ a0).2.1) : Nat) : Int))) (Tc.dflt tItem)).1, [], [97]] : List Bytes)), (List.getD ((rightP L at_ a0).2.1) (Int.toNat (next (((L))) (nextAt (nextAt ((rightP L at_ a0).1))) ((List.length ((rightP L at_ a0).2.1) : Nat) : Int))) (Tc.dflt tItem)).2)) (Int.toNat (next (((L))) (nextAt (nextAt ((rightP L at_ a0).1))) ((List.length ((rightP L at_ a0).2.1) : Nat) : Int))) (Tc.dflt tItem)).1, ((List.getD (List.set ((rightP L at_ a0).2.1) (Int.toNat (next (((L))) (nextAt (nextAt ((rightP L at_ a0).1))) ((List.length ((rightP L at_ a0).2.1) : Nat) : Int))) ((some_ ((((L)))) (nextAt (nextAt (nextAt ((rightP L at_ a0).1)))) ([(List.getD ((rightP L at_ a0).2.1) (Int.toNat (next (((L))) (nextAt (nextAt ((rightP L at_ a0).1))) ((List.length ((rightP L at_ a0).2.1) : Nat) : Int))) (Tc.dflt tItem)).1, [], [97]] : List Bytes)), (List.getD ((rightP L at_ a0).2.1) (Int.toNat (next (((L))) (nextAt (nextAt ((rightP L at_ a0).1))) ((List.length ((rightP L at_ a0).2.1) : Nat) : Int))) (Tc.dflt tItem)).2)) (Int.toNat (next (((L))) (nextAt (nextAt ((rightP L at_ a0).1))) ((List.length ((rightP L at_ a0).2.1) : Nat) : Int))) (Tc.dflt tItem)).2.1, (((oddS (((((L))))) (nextAt (nextAt (nextAt (nextAt ((rightP L at_ a0).1))))) (1 : Int) (86400000 : Int)).2), (List.getD (List.set ((rightP L at_ a0).2.1) (Int.toNat (next (((L))) (nextAt (nextAt ((rightP L at_ a0).1))) ((List.length ((rightP L at_ a0).2.1) : Nat) : Int))) ((some_ ((((L)))) (nextAt (nextAt (nextAt ((rightP L at_ a0).1)))) ([(List.getD ((rightP L at_ a0).2.1) (Int.toNat (next (((L))) (nextAt (nextAt ((rightP L at_ a0).1))) ((List.length ((rightP L at_ a0).2.1) : Nat) : Int))) (Tc.dflt tItem)).1, [], [97]] : List Bytes)), (List.getD ((rightP L at_ a0).2.1) (Int.toNat (next (((L))) (nextAt (nextAt ((rightP L at_ a0).1))) ((List.length ((rightP L at_ a0).2.1) : Nat) : Int))) (Tc.dflt tItem)).2)) (Int.toNat (next (((L))) (nextAt (nextAt ((rightP L at_ a0).1))) ((List.length ((rightP L at_ a0).2.1) : Nat) : Int))) (Tc.dflt tItem)).2.2.2)))) (Int.toNat (next (((L))) (nextAt (nextAt ((rightP L at_ a0).1))) ((List.length ((rightP L at_ a0).2.1) : Nat) : Int))) (Tc.dflt tItem)).1, ((List.getD (List.set (List.set ((rightP L at_ a0).2.1) (Int.toNat (next (((L))) (nextAt (nextAt ((rightP L at_ a0).1))) ((List.length ((rightP L at_ a0).2.1) : Nat) : Int))) ((some_ ((((L)))) (nextAt (nextAt (nextAt ((rightP L at_ a0).1)))) ([(List.getD ((rightP L at_ a0).2.1) (Int.toNat (next (((L))) (nextAt (nextAt ((rightP L at_ a0).1))) ((List.length ((rightP L at_ a0).2.1) : Nat) : Int))) (Tc.dflt tItem)).1, [], [97]] : List Bytes)), (List.getD ((rightP L at_ a0).2.1) (Int.toNat (next (((L))) (nextAt (nextAt ((rightP L at_ a0).1))) ((List.length ((rightP L at_ a0).2.1) : Nat) : Int))) (Tc.dflt tItem)).2)) (Int.toNat (next (((L))) (nextAt (nextAt ((rightP L at_ a0).1))) ((List.length ((rightP L at_ a0).2.1) : Nat) : Int))) ((List.getD (List.set ((rightP L at_ a0).2.1) (Int.toNat (next (((L))) (nextAt (nextAt ((rightP L at_ a0).1))) ((List.length ((rightP L at_ a0).2.1) : Nat) : Int))) ((some_ ((((L)))) (nextAt (nextAt (nextAt ((rightP L at_ a0).1)))) ([(List.getD ((rightP L at_ a0).2.1) (Int.toNat (next (((L))) (nextAt (nextAt ((rightP L at_ a0).1))) ((List.length ((rightP L at_ a0).2.1) : Nat) : Int))) (Tc.dflt tItem)).1, [], [97]] : List Bytes)), (List.getD ((rightP L at_ a0).2.1) (Int.toNat (next (((L))) (nextAt (nextAt ((rightP L at_ a0).1))) ((List.length ((rightP L at_ a0).2.1) : Nat) : Int))) (Tc.dflt tItem)).2)) (Int.toNat (next (((L))) (nextAt (nextAt ((rightP L at_ a0).1))) ((List.length ((rightP L at_ a0).2.1) : Nat) : Int))) (Tc.dflt tItem)).1, ((List.getD (List.set ((rightP L at_ a0).2.1) (Int.toNat (next (((L))) (nextAt (nextAt ((rightP L at_ a0).1))) ((List.length ((rightP L at_ a0).2.1) : Nat) : Int))) ((some_ ((((L)))) (nextAt (nextAt (nextAt ((rightP L at_ a0).1)))) ([(List.getD ((rightP L at_ a0).2.1) (Int.toNat (next (((L))) (nextAt (nextAt ((rightP L at_ a0).1))) ((List.length ((rightP L at_ a0).2.1) : Nat) : Int))) (Tc.dflt tItem)).1, [], [97]] : List Bytes)), (List.getD ((rightP L at_ a0).2.1) (Int.toNat (next (((L))) (nextAt (nextAt ((rightP L at_ a0).1))) ((List.length ((rightP L at_ a0).2.1) : Nat) : Int))) (Tc.dflt tItem)).2)) (Int.toNat (next (((L))) (nextAt (nextAt ((rightP L at_ a0).1))) ((List.length ((rightP L at_ a0).2.1) : Nat) : Int))) (Tc.dflt tItem)).2.1, (((oddS (((((L))))) (nextAt (nextAt (nextAt (nextAt ((rightP L at_ a0).1))))) (1 : Int) (86400000 : Int)).2), (List.getD (List.set ((rightP L at_ a0).2.1) (Int.toNat (next (((L))) (nextAt (nextAt ((rightP L at_ a0).1))) ((List.length ((rightP L at_ a0).2.1) : Nat) : Int))) ((some_ ((((L)))) (nextAt (nextAt (nextAt ((rightP L at_ a0).1)))) ([(List.getD ((rightP L at_ a0).2.1) (Int.toNat (next (((L))) (nextAt (nextAt ((rightP L at_ a0).1))) ((List.length ((rightP L at_ a0).2.1) : Nat) : Int))) (Tc.dflt tItem)).1, [], [97]] : List Bytes)), (List.getD ((rightP L at_ a0).2.1) (Int.toNat (next (((L))) (nextAt (nextAt ((rightP L at_ a0).1))) ((List.length ((rightP L at_ a0).2.1) : Nat) : Int))) (Tc.dflt tItem)).2)) (Int.toNat (next (((L))) (nextAt (nextAt ((rightP L at_ a0).1))) ((List.length ((rightP L at_ a0).2.1) : Nat) : Int))) (Tc.dflt tItem)).2.2.2)))) (Int.toNat (next (((L))) (nextAt (nextAt ((rightP L at_ a0).1))) ((List.length ((rightP L at_ a0).2.1) : Nat) : Int))) (Tc.dflt tItem)).2.1, ((List.getD (List.set (List.set ((rightP L at_ a0).2.1) (Int.toNat (next (((L))) (nextAt (nextAt ((rightP L at_ a0).1))) ((List.length ((rightP L at_ a0).2.1) : Nat) : Int))) ((some_ ((((L)))) (nextAt (nextAt (nextAt ((rightP L at_ a0).1)))) ([(List.getD ((rightP L at_ a0).2.1) (Int.toNat (next (((L))) (nextAt (nextAt ((rightP L at_ a0).1))) ((List.length ((rightP L at_ a0).2.1) : Nat) : Int))) (Tc.dflt tItem)).1, [], [97]] : List Bytes)), (List.getD ((rightP L at_ a0).2.1) (Int.toNat (next (((L))) (nextAt (nextAt ((rightP L at_ a0).1))) ((List.length ((rightP L at_ a0).2.1) : Nat) : Int))) (Tc.dflt tItem)).2)) (Int.toNat (next (((L))) (nextAt (nextAt ((rightP L at_ a0).1))) ((List.length ((rightP L at_ a0).2.1) : Nat) : Int))) ((List.getD (List.set ((rightP L at_ a0).2.1) (Int.toNat (next (((L))) (nextAt (nextAt ((rightP L at_ a0).1))) ((List.length ((rightP L at_ a0).2.1) : Nat) : Int))) ((some_ ((((L)))) (nextAt (nextAt (nextAt ((rightP L at_ a0).1)))) ([(List.getD ((rightP L at_ a0).2.1) (Int.toNat (next (((L))) (nextAt (nextAt ((rightP L at_ a0).1))) ((List.length ((rightP L at_ a0).2.1) : Nat) : Int))) (Tc.dflt tItem)).1, [], [97]] : List Bytes)), (List.getD ((rightP L at_ a0).2.1) (Int.toNat (next (((L))) (nextAt (nextAt ((rightP L at_ a0).1))) ((List.length ((rightP L at_ a0).2.1) : Nat) : Int))) (Tc.dflt tItem)).2)) (Int.toNat (next (((L))) (nextAt (nextAt ((rightP L at_ a0).1))) ((List.length ((rightP L at_ a0).2.1) : Nat) : Int))) (Tc.dflt tItem)).1, ((List.getD (List.set ((rightP L at_ a0).2.1) (Int.toNat (next (((L))) (nextAt (nextAt ((rightP L at_ a0).1))) ((List.length ((rightP L at_ a0).2.1) : Nat) : Int))) ((some_ ((((L)))) (nextAt (nextAt (nextAt ((rightP L at_ a0).1)))) ([(List.getD ((rightP L at_ a0).2.1) (Int.toNat (next (((L))) (nextAt (nextAt ((rightP L at_ a0).1))) ((List.length ((rightP L at_ a0).2.1) : Nat) : Int))) (Tc.dflt tItem)).1, [], [97]] : List Bytes)), (List.getD ((rightP L at_ a0).2.1) (Int.toNat (next (((L))) (nextAt (nextAt ((rightP L at_ a0).1))) ((List.length ((rightP L at_ a0).2.1) : Nat) : Int))) (Tc.dflt tItem)).2)) (Int.toNat (next (((L))) (nextAt (nextAt ((rightP L at_ a0).1))) ((List.length ((rightP L at_ a0).2.1) : Nat) : Int))) (Tc.dflt tItem)).2.1, (((oddS (((((L))))) (nextAt (nextAt (nextAt (nextAt ((rightP L at_ a0).1))))) (1 : Int) (86400000 : Int)).2), (List.getD (List.set ((rightP L at_ a0).2.1) (Int.toNat (next (((L))) (nextAt (nextAt ((rightP L at_ a0).1))) ((List.length ((rightP L at_ a0).2.1) : Nat) : Int))) ((some_ ((((L)))) (nextAt (nextAt (nextAt ((rightP L at_ a0).1)))) ([(List.getD ((rightP L at_ a0).2.1) (Int.toNat (next (((L))) (nextAt (nextAt ((rightP L at_ a0).1))) ((List.length ((rightP L at_ a0).2.1) : Nat) : Int))) (Tc.dflt tItem)).1, [], [97]] : List Bytes)), (List.getD ((rightP L at_ a0).2.1) (Int.toNat (next (((L))) (nextAt (nextAt ((rightP L at_ a0).1))) ((List.length ((rightP L at_ a0).2.1) : Nat) : Int))) (Tc.dflt tItem)).2)) (Int.toNat (next (((L))) (nextAt (nextAt ((rightP L at_ a0).1))) ((List.length ((rightP L at_ a0).2.1) : Nat) : Int))) (Tc.dflt tItem)).2.2.2)))) (Int.toNat (next (((L))) (nextAt (nextAt ((rightP L at_ a0).1))) ((List.length ((rightP L at_ a0).2.1) : Nat) : Int))) (Tc.dflt tItem)).2.2.1, (((List.getD ((rightP L at_ a0).2.1) (Int.toNat (next (((L))) (nextAt (nextAt ((rightP L at_ a0).1))) ((List.length ((rightP L at_ a0).2.1) : Nat) : Int))) (Tc.dflt tItem)).2.2.2) ++ ([(some_ ((((((L)))))) ((oddS (((((L))))) (nextAt (nextAt (nextAt (nextAt ((rightP L at_ a0).1))))) (1 : Int) (86400000 : Int)).1) ([[122, 122], [], [97, 108, 116, 111]] : List Bytes))] : List Bytes)))))), (((rightP L at_ a0).2.2.1), (((rightP L at_ a0).2.2.2.1), (((rightP L at_ a0).2.2.2.2.1), ((rightP L at_ a0).2.2.2.2.2)))))], [(0, .box [.dat (.slice tI) (((((((L))))))), .dat tI (nextAt ((oddS (((((L))))) (nextAt (nextAt (nextAt (nextAt ((rightP L at_ a0).1))))) (1 : Int) (86400000 : Int)).1))])]⟩) none) none) none) none) none) none) none) none) none) none) none) none) none) none) none) none) none) none) none) none) none) none) none) (some ⟨[.dat tPrgm (((rightP L at_ a0).2.1), (((rightP L at_ a0).2.2.1), (((rightP L at_ a0).2.2.2.1), (((rightP L at_ a0).2.2.2.2.1), ((rightP L at_ a0).2.2.2.2.2)))))], [(0, .box [.dat (.slice tI) (((L))), .dat tI (nextAt (nextAt ((rightP L at_ a0).1)))])]⟩)))) none) (some ⟨[.dat tPrgm (((rightP L at_ a0).2.1), (((rightP L at_ a0).2.2.1), (((rightP L at_ a0).2.2.2.1), (((rightP L at_ a0).2.2.2.2.1), ((rightP L at_ a0).2.2.2.2.2)))))], [(0, .box [.dat (.slice tI) ((L)), .dat tI (nextAt ((rightP L at_ a0).1))])]⟩)) none) none) := (I6.run_eq _).trans (by kernel_rfl)
theorem f46_run (a0 : Int) (a1 : Int) (a2 : Int) : I46.run ⟨[.dat tI a0, .dat tI a1, .dat tI a2], []⟩ = (cond (decide (a1 ≤ a0)) (some ⟨[.dat .bool (decide (a0 ≤ a2))], []⟩) (some ⟨[.dat .bool false], []⟩)) := (I46.run_eq _).trans (by kernel_rfl)
noncomputable def f89h0 (x0 : Bytes) (x1 : Bytes) (x2 : Int) (x3 : Int) : Option Fr := I89.hd 0 (mkF 18 [(0, .dat .str x0), (1, .dat .str x1), (7, .dat tI x2), (8, .dat tI x3)] [])
theorem f89_run (a0 : Bytes) (a1 : Bytes) : I89.run ⟨[.dat .str a0, .dat .str a1], []⟩ = (f89h0 a0 a1 ((List.length a0 : Nat) : Int) (0 : Int)) := (I89.run_eq _).trans (by kernel_rfl)
theorem f89h0_eq (x0 : Bytes) (x1 : Bytes) (x2 : Int) (x3 : Int) : f89h0 x0 x1 x2 x3 = (cond (decide (x3 < x2)) (cond (decide ((0 : Int) ≤ x3)) (cond (decide (x3 < ((List.length x0 : Nat) : Int))) (cond (decide ((indexB x1 ((UInt8.toNat (List.getD x0 (Int.toNat x3) 0) : Nat) : Int)) < (0 : Int))) (some ⟨[.dat .bool false], []⟩) (f89h0 x0 x1 x2 (wrap .i64 (x3 + (1 : Int))))) none) none) (some ⟨[.dat .bool true], []⟩)) := hdEq (by kernel_rfl)
theorem f54_run (a0 : Bytes) : I54.run ⟨[.dat .str a0], []⟩ = (cond (inR ((List.length a0 : Nat) : Int) (1 : Int) (40 : Int)) (cond (decide ((0 : Int) ≤ (0 : Int))) (cond (decide ((0 : Int) ≤ (1 : Int))) (cond (decide ((1 : Int) ≤ ((List.length a0 : Nat) : Int))) (cond (decide (List.length (List.drop (Int.toNat (0 : Int)) (List.take (Int.toNat (1 : Int)) a0)) ≤ 1000000)) (cond (onlyB (List.drop (Int.toNat (0 : Int)) (List.take (Int.toNat (1 : Int)) a0)) [97, 98, 99, 100, 101, 102, 103, 104, 105, 106, 107, 108, 109, 110, 111, 112, 113, 114, 115, 116, 117, 118, 119, 120, 121, 122]) (cond (decide (List.length a0 ≤ 1000000)) (some ⟨[.dat .bool (onlyB a0 [97, 98, 99, 100, 101, 102, 103, 104, 105, 106, 107, 108, 109, 110, 111, 112, 113, 114, 115, 116, 117, 118, 119, 120, 121, 122, 48, 49, 50, 51, 52, 53, 54, 55, 56, 57, 45, 95])], []⟩) none) (some ⟨[.dat .bool false], []⟩)) none) none) none) none) (some ⟨[.dat .bool false], []⟩)) := (I54.run_eq _).trans (by kernel_rfl)
theorem f90_run (a0 : Item) (k : Bytes) : I90.run ⟨[.dat tItem a0, .ptr 0 0], [(0, .box [.dat .str k])]⟩ = (some ⟨[.dat .bool (a0.1 == k)], [(0, .box [.dat .str k])]⟩) := (I90.run_eq _).trans (by kernel_rfl)
noncomputable def f88h0 (x0 : (List Item)) (x1 : Int) (x2 : Int) (x3 : Bytes) : Option Fr := I88.hd 0 (mkF 19 [(0, .dat (.slice tItem) x0), (1, .clos 90 [.ptr 0 0]), (7, .dat tI x1), (8, .dat tI x2)] [(0, .box [.dat .str x3])])
theorem f88_run (a0 : (List Item)) (k : Bytes) : I88.run ⟨[.dat (.slice tItem) a0, .clos 90 [.ptr 0 0]], [(0, .box [.dat .str k])]⟩ = (f88h0 a0 ((List.length a0 : Nat) : Int) (0 : Int) k) := (I88.run_eq _).trans (by kernel_rfl)
theorem f88h0_eq (x0 : (List Item)) (x1 : Int) (x2 : Int) (x3 : Bytes) : f88h0 x0 x1 x2 x3 = (cond (decide (x2 < x1)) (cond (decide ((0 : Int) ≤ x2)) (cond (decide (x2 < ((List.length x0 : Nat) : Int))) (cond (t90_0 (List.getD x0 (Int.toNat x2) (Tc.dflt tItem)) x3) (some ⟨[.dat tI x2], [(0, .box [.dat .str x3])]⟩) (f88h0 x0 x1 (wrap .i64 (x2 + (1 : Int))) x3)) none) none) (some ⟨[.dat tI (-1 : Int)], [(0, .box [.dat .str x3])]⟩)) := hdEq (by kernel_rfl)
theorem f55_run (a0 : (List Item)) (a1 : Bytes) : I55.run ⟨[.dat (.slice tItem) a0, .dat .str a1], []⟩ = (cond (decide (List.length a0 ≤ 1000)) (some ⟨[.dat tI (idxBy (fun o => t90_0 o a1) a0 0)], []⟩) none) := (I55.run_eq _).trans (by kernel_rfl)
noncomputable def f56h0 (x0 : (List Bytes)) (x1 : (List Bytes)) (x2 : Int) (x3 : Int) : Option Fr := I56.hd 0 (mkF 27 [(0, .dat (.slice .str) x0), (5, .dat (.slice .str) x1), (6, .dat tI x2), (7, .dat tI x3)] [])
theorem f56_run (a0 : (List Bytes)) : I56.run ⟨[.dat (.slice .str) a0], []⟩ = (f56h0 a0 a0 ((List.length a0 : Nat) : Int) (0 : Int)) := (I56.run_eq _).trans (by kernel_rfl)
theorem f56h0_eq (x0 : (List Bytes)) (x1 : (List Bytes)) (x2 : Int) (x3 : Int) : f56h0 x0 x1 x2 x3 = (cond (decide (x3 < x2)) (cond (decide ((0 : Int) ≤ x3)) (cond (decide (x3 < ((List.length x1 : Nat) : Int))) (cond (!(keyR (List.getD x1 (Int.toNat x3) (Tc.dflt .str)))) (some ⟨[.dat tI (5 : Int)], []⟩) (cond (decide (x3 > (0 : Int))) (cond (decide ((0 : Int) ≤ (wrap .i64 (x3 - (1 : Int))))) (cond (decide ((wrap .i64 (x3 - (1 : Int))) < ((List.length x0 : Nat) : Int))) (cond (bLess (List.getD x1 (Int.toNat x3) (Tc.dflt .str)) (List.getD x0 (Int.toNat (wrap .i64 (x3 - (1 : Int)))) (Tc.dflt .str)) || (List.getD x1 (Int.toNat x3) (Tc.dflt .str)) == (List.getD x0 (Int.toNat (wrap .i64 (x3 - (1 : Int)))) (Tc.dflt .str))) (some ⟨[.dat tI (7 : Int)], []⟩) (f56h0 x0 x1 x2 (wrap .i64 (x3 + (1 : Int))))) none) none) (f56h0 x0 x1 x2 (wrap .i64 (x3 + (1 : Int)))))) none) none) (some ⟨[.dat tI (0 : Int)], []⟩)) := hdEq (by kernel_rfl)
noncomputable def f17h0 (x0 : (List Item)) (x1 : (List Item)) (x2 : Int) (x3 : Int) : Option Fr := I17.hd 0 (mkF 57 [(0, .dat (.slice tItem) x0), (9, .dat (.slice tItem) x1), (10, .dat tI x2), (11, .dat tI x3)] [])
theorem f17_run (a0 : (List Item)) : I17.run ⟨[.dat (.slice tItem) a0], []⟩ = (cond (decide (((List.length a0 : Nat) : Int) > (60 : Int))) (some ⟨[.dat tI (2 : Int)], []⟩) (f17h0 a0 a0 ((List.length a0 : Nat) : Int) (0 : Int))) := (I17.run_eq _).trans (by kernel_rfl)
theorem f17h0_eq (x0 : (List Item)) (x1 : (List Item)) (x2 : Int) (x3 : Int) : f17h0 x0 x1 x2 x3 = (cond (decide (x3 < x2)) (cond (decide ((0 : Int) ≤ x3)) (cond (decide (x3 < ((List.length x1 : Nat) : Int))) (cond (!(keyR (List.getD x1 (Int.toNat x3) (Tc.dflt tItem)).1)) (some ⟨[.dat tI (5 : Int)], []⟩) (cond (!(keyR (List.getD x1 (Int.toNat x3) (Tc.dflt tItem)).2.1)) (some ⟨[.dat tI (5 : Int)], []⟩) (cond (decide ((0 : Int) ≤ (0 : Int))) (cond (decide ((0 : Int) ≤ x3)) (cond (decide (x3 ≤ ((List.length x0 : Nat) : Int))) (cond (t55_ok (List.drop (Int.toNat (0 : Int)) (List.take (Int.toNat x3) x0)) (List.getD x1 (Int.toNat x3) (Tc.dflt tItem)).1) (cond (decide ((t55_0 (List.drop (Int.toNat (0 : Int)) (List.take (Int.toNat x3) x0)) (List.getD x1 (Int.toNat x3) (Tc.dflt tItem)).1) ≥ (0 : Int))) (some ⟨[.dat tI (6 : Int)], []⟩) (cond (!(inR (List.getD x1 (Int.toNat x3) (Tc.dflt tItem)).2.2.1 (1 : Int) (86400000 : Int))) (some ⟨[.dat tI (1 : Int)], []⟩) (cond (((List.length (List.getD x1 (Int.toNat x3) (Tc.dflt tItem)).2.2.2 : Nat) : Int) == (0 : Int)) (some ⟨[.dat tI (8 : Int)], []⟩) (cond (decide (((List.length (List.getD x1 (Int.toNat x3) (Tc.dflt tItem)).2.2.2 : Nat) : Int) > (12 : Int))) (some ⟨[.dat tI (2 : Int)], []⟩) (cond (decide (List.length (List.getD x1 (Int.toNat x3) (Tc.dflt tItem)).2.2.2 ≤ 1000)) (cond ((risingGo keyR none (List.getD x1 (Int.toNat x3) (Tc.dflt tItem)).2.2.2) != (0 : Int)) (some ⟨[.dat tI (risingGo keyR none (List.getD x1 (Int.toNat x3) (Tc.dflt tItem)).2.2.2)], []⟩) (f17h0 x0 x1 x2 (wrap .i64 (x3 + (1 : Int))))) none))))) none) none) none) none))) none) none) (some ⟨[.dat tI (0 : Int)], []⟩)) := hdEq (by kernel_rfl)
theorem f11_run (a0 : Prgm) : I11.run ⟨[.dat tPrgm a0], []⟩ = (cond ((checkItems keyR a0.1) != (0 : Int)) (some ⟨[.dat tI (checkItems keyR a0.1)], []⟩) (cond (!(inR a0.2.1 (0 : Int) (86400000 : Int))) (some ⟨[.dat tI (1 : Int)], []⟩) (cond (!(inR a0.2.2.1 (0 : Int) (86400000 : Int))) (some ⟨[.dat tI (1 : Int)], []⟩) (cond (!(inR a0.2.2.2.1 (0 : Int) (86400000 : Int))) (some ⟨[.dat tI (1 : Int)], []⟩) (cond (!(inR a0.2.2.2.2 (-1 : Int) (if (-1 : Int) < (wrap .i64 (((List.length a0.1 : Nat) : Int) - (2 : Int))) then (wrap .i64 (((List.length a0.1 : Nat) : Int) - (2 : Int))) else (-1 : Int)))) (some ⟨[.dat tI (1 : Int)], []⟩) (some ⟨[.dat tI (0 : Int)], []⟩)))))) := (I11.run_eq _).trans (by kernel_rfl)
theorem f51_run (a0 : Item) (k : Bytes) (pl : Bytes) (lg : Int) (ps : (List Bytes)) : I51.run ⟨[.dat tItem a0, .ptr 0 0], [(0, .box [.dat .str k, .dat .str pl, .dat tI lg, .dat (.slice .str) ps])]⟩ = (some ⟨[.dat .bool (a0.1 == k)], [(0, .box [.dat .str k, .dat .str pl, .dat tI lg, .dat (.slice .str) ps])]⟩) := (I51.run_eq _).trans (by kernel_rfl)
noncomputable def f88ah0 (x0 : (List Item)) (x1 : Int) (x2 : Int) (x3 : Bytes) (x4 : Bytes) (x5 : Int) (x6 : (List Bytes)) : Option Fr := I88a.hd 0 (mkF 19 [(0, .dat (.slice tItem) x0), (1, .clos 51 [.ptr 0 0]), (7, .dat tI x1), (8, .dat tI x2)] [(0, .box [.dat .str x3, .dat .str x4, .dat tI x5, .dat (.slice .str) x6])])
theorem f88a_run (a0 : (List Item)) (k : Bytes) (pl : Bytes) (lg : Int) (ps : (List Bytes)) : I88a.run ⟨[.dat (.slice tItem) a0, .clos 51 [.ptr 0 0]], [(0, .box [.dat .str k, .dat .str pl, .dat tI lg, .dat (.slice .str) ps])]⟩ = (f88ah0 a0 ((List.length a0 : Nat) : Int) (0 : Int) k pl lg ps) := (I88a.run_eq _).trans (by kernel_rfl)
theorem f88ah0_eq (x0 : (List Item)) (x1 : Int) (x2 : Int) (x3 : Bytes) (x4 : Bytes) (x5 : Int) (x6 : (List Bytes)) : f88ah0 x0 x1 x2 x3 x4 x5 x6 = (cond (decide (x2 < x1)) (cond (decide ((0 : Int) ≤ x2)) (cond (decide (x2 < ((List.length x0 : Nat) : Int))) (cond (t51_0 (List.getD x0 (Int.toNat x2) (Tc.dflt tItem)) x3 x4 x5 x6) (some ⟨[.dat tI x2], [(0, .box [.dat .str x3, .dat .str x4, .dat tI x5, .dat (.slice .str) x6])]⟩) (f88ah0 x0 x1 (wrap .i64 (x2 + (1 : Int))) x3 x4 x5 x6)) none) none) (some ⟨[.dat tI (-1 : Int)], [(0, .box [.dat .str x3, .dat .str x4, .dat tI x5, .dat (.slice .str) x6])]⟩)) := hdEq (by kernel_rfl)
theorem f50_run (a0 : (List Item)) (k : Bytes) (pl : Bytes) (lg : Int) (ps : (List Bytes)) : I50.run ⟨[.dat (.slice tItem) a0, .clos 51 [.ptr 0 0]], [(0, .box [.dat .str k, .dat .str pl, .dat tI lg, .dat (.slice .str) ps])]⟩ = (cond (decide (List.length a0 ≤ 1000)) (some ⟨[.dat .bool (decide ((idxBy (fun o => t51_0 o k pl lg ps) a0 0) ≥ (0 : Int)))], [(0, .box [.dat .str (k), .dat .str (pl), .dat tI (lg), .dat (.slice .str) (ps)])]⟩) none) := (I50.run_eq _).trans (by kernel_rfl)
theorem f49_run (a0 : Bytes) : I49.run ⟨[.dat .str a0], []⟩ = (cond (!(a0 == [])) (cond (decide (((List.length a0 : Nat) : Int) ≤ (40 : Int))) (cond (decide ((0 : Int) ≤ (0 : Int))) (cond (decide ((0 : Int) < ((List.length a0 : Nat) : Int))) (cond (decide ((indexB [97, 98, 99, 100, 101, 102, 103, 104, 105, 106, 107, 108, 109, 110, 111, 112, 113, 114, 115, 116, 117, 118, 119, 120, 121, 122] ((UInt8.toNat (List.getD a0 (Int.toNat (0 : Int)) 0) : Nat) : Int)) ≥ (0 : Int))) (cond (trimOk a0 [97, 98, 99, 100, 101, 102, 103, 104, 105, 106, 107, 108, 109, 110, 111, 112, 113, 114, 115, 116, 117, 118, 119, 120, 121, 122, 48, 49, 50, 51, 52, 53, 54, 55, 56, 57, 45, 95]) (some ⟨[.dat .bool ((trimB a0 [97, 98, 99, 100, 101, 102, 103, 104, 105, 106, 107, 108, 109, 110, 111, 112, 113, 114, 115, 116, 117, 118, 119, 120, 121, 122, 48, 49, 50, 51, 52, 53, 54, 55, 56, 57, 45, 95]) == [])], []⟩) none) (some ⟨[.dat .bool false], []⟩)) none) none) (some ⟨[.dat .bool false], []⟩)) (some ⟨[.dat .bool false], []⟩)) := (I49.run_eq _).trans (by kernel_rfl)
theorem f52_run (a0 : Int) (a1 : Int) (a2 : Int) : I52.run ⟨[.dat tI a0, .dat tI a1, .dat tI a2], []⟩ = (cond (decide (a0 < a1)) (some ⟨[.dat .bool true], []⟩) (some ⟨[.dat .bool (decide (a0 > a2))], []⟩)) := (I52.run_eq _).trans (by kernel_rfl)
noncomputable def f53h0 (x0 : (List Bytes)) (x1 : (List Bytes)) (x2 : Int) (x3 : Int) : Option Fr := I53.hd 0 (mkF 33 [(0, .dat (.slice .str) x0), (11, .dat (.slice .str) x1), (12, .dat tI x2), (13, .dat tI x3)] [])
theorem f53_run (a0 : (List Bytes)) : I53.run ⟨[.dat (.slice .str) a0], []⟩ = (cond (((List.length a0 : Nat) : Int) == (0 : Int)) (some ⟨[.dat tI (8 : Int)], []⟩) (cond (decide (((List.length a0 : Nat) : Int) > (12 : Int))) (some ⟨[.dat tI (2 : Int)], []⟩) (f53h0 a0 a0 ((List.length a0 : Nat) : Int) (0 : Int)))) := (I53.run_eq _).trans (by kernel_rfl)
theorem f53h0_eq (x0 : (List Bytes)) (x1 : (List Bytes)) (x2 : Int) (x3 : Int) : f53h0 x0 x1 x2 x3 = (cond (decide (x3 < x2)) (cond (decide ((0 : Int) ≤ x3)) (cond (decide (x3 < ((List.length x1 : Nat) : Int))) (cond (!(isKey (List.getD x1 (Int.toNat x3) (Tc.dflt .str)))) (some ⟨[.dat tI (5 : Int)], []⟩) (cond (decide (x3 > (0 : Int))) (cond (decide ((0 : Int) ≤ (wrap .i64 (x3 - (1 : Int))))) (cond (decide ((wrap .i64 (x3 - (1 : Int))) < ((List.length x0 : Nat) : Int))) (cond (bLess (List.getD x1 (Int.toNat x3) (Tc.dflt .str)) (List.getD x0 (Int.toNat (wrap .i64 (x3 - (1 : Int)))) (Tc.dflt .str)) || (List.getD x1 (Int.toNat x3) (Tc.dflt .str)) == (List.getD x0 (Int.toNat (wrap .i64 (x3 - (1 : Int)))) (Tc.dflt .str))) (some ⟨[.dat tI (7 : Int)], []⟩) (f53h0 x0 x1 x2 (wrap .i64 (x3 + (1 : Int))))) none) none) (f53h0 x0 x1 x2 (wrap .i64 (x3 + (1 : Int)))))) none) none) (some ⟨[.dat tI (0 : Int)], []⟩)) := hdEq (by kernel_rfl)
noncomputable def f16h0 (x0 : (List Item)) (x1 : (List Item)) (x2 : Int) (x3 : Int) : Option Fr := I16.hd 0 (mkF 44 [(0, .dat (.slice tItem) x0), (9, .dat (.slice tItem) x1), (10, .dat tI x2), (11, .dat tI x3)] [])
theorem f16_run (a0 : (List Item)) : I16.run ⟨[.dat (.slice tItem) a0], []⟩ = (cond (decide (((List.length a0 : Nat) : Int) > (60 : Int))) (some ⟨[.dat tI (2 : Int)], []⟩) (f16h0 a0 a0 ((List.length a0 : Nat) : Int) (0 : Int))) := (I16.run_eq _).trans (by kernel_rfl)
theorem f16h0_eq (x0 : (List Item)) (x1 : (List Item)) (x2 : Int) (x3 : Int) : f16h0 x0 x1 x2 x3 = (cond (decide (x3 < x2)) (cond (decide ((0 : Int) ≤ x3)) (cond (decide (x3 < ((List.length x1 : Nat) : Int))) (cond (!(isKey (List.getD x1 (Int.toNat x3) (Tc.dflt tItem)).1)) (some ⟨[.dat tI (5 : Int)], []⟩) (cond (!(isKey (List.getD x1 (Int.toNat x3) (Tc.dflt tItem)).2.1)) (some ⟨[.dat tI (5 : Int)], []⟩) (cond (decide ((0 : Int) ≤ (0 : Int))) (cond (decide ((0 : Int) ≤ x3)) (cond (decide (x3 ≤ ((List.length x0 : Nat) : Int))) (cond (t50_ok (List.drop (Int.toNat (0 : Int)) (List.take (Int.toNat x3) x0)) (List.getD x1 (Int.toNat x3) (Tc.dflt tItem)).1 (List.getD x1 (Int.toNat x3) (Tc.dflt tItem)).2.1 (List.getD x1 (Int.toNat x3) (Tc.dflt tItem)).2.2.1 (List.getD x1 (Int.toNat x3) (Tc.dflt tItem)).2.2.2) (cond (t50_0 (List.drop (Int.toNat (0 : Int)) (List.take (Int.toNat x3) x0)) (List.getD x1 (Int.toNat x3) (Tc.dflt tItem)).1 (List.getD x1 (Int.toNat x3) (Tc.dflt tItem)).2.1 (List.getD x1 (Int.toNat x3) (Tc.dflt tItem)).2.2.1 (List.getD x1 (Int.toNat x3) (Tc.dflt tItem)).2.2.2) (some ⟨[.dat tI (6 : Int)], []⟩) (cond (outside (List.getD x1 (Int.toNat x3) (Tc.dflt tItem)).2.2.1 (1 : Int) (86400000 : Int)) (some ⟨[.dat tI (1 : Int)], []⟩) (cond ((partsF isKey (List.getD x1 (Int.toNat x3) (Tc.dflt tItem)).2.2.2) != (0 : Int)) (some ⟨[.dat tI (partsF isKey (List.getD x1 (Int.toNat x3) (Tc.dflt tItem)).2.2.2)], []⟩) (f16h0 x0 x1 x2 (wrap .i64 (x3 + (1 : Int))))))) none) none) none) none))) none) none) (some ⟨[.dat tI (0 : Int)], []⟩)) := hdEq (by kernel_rfl)
theorem f18_run (a0 : Prgm) : I18.run ⟨[.dat tPrgm a0], []⟩ = (cond ((checkItems isKey a0.1) != (0 : Int)) (some ⟨[.dat tI (checkItems isKey a0.1)], []⟩) (cond (outside a0.2.1 (0 : Int) (86400000 : Int)) (some ⟨[.dat tI (1 : Int)], []⟩) (cond (outside a0.2.2.1 (0 : Int) (86400000 : Int)) (some ⟨[.dat tI (1 : Int)], []⟩) (cond (outside a0.2.2.2.1 (0 : Int) (86400000 : Int)) (some ⟨[.dat tI (1 : Int)], []⟩) (cond (outside a0.2.2.2.2 (-1 : Int) (if (-1 : Int) < (wrap .i64 (((List.length a0.1 : Nat) : Int) - (2 : Int))) then (wrap .i64 (((List.length a0.1 : Nat) : Int) - (2 : Int))) else (-1 : Int))) (some ⟨[.dat tI (1 : Int)], []⟩) (some ⟨[.dat tI (0 : Int)], []⟩)))))) := (I18.run_eq _).trans (by kernel_rfl)
theorem f74_run (a0 : Prgm) (a1 : Item) (a2 : Item) : I74.run ⟨[.dat tPrgm a0, .dat tItem a1, .dat tItem a2], []⟩ = (cond (!(a1.2.1 == a2.2.1)) (some ⟨[.dat tI a0.2.1], []⟩) (some ⟨[.dat tI a0.2.2.1], []⟩)) := (I74.run_eq _).trans (by kernel_rfl)
theorem f85_run (a0 : Prgm) (a1 : Int) : I85.run ⟨[.dat tPrgm a0, .dat tI a1], []⟩ = (cond (a1 == a0.2.2.2.2) (some ⟨[.dat tI a0.2.2.2.1], []⟩) (cond (decide ((0 : Int) ≤ a1)) (cond (decide (a1 < ((List.length a0.1 : Nat) : Int))) (cond (decide ((0 : Int) ≤ (wrap .i64 (a1 + (1 : Int))))) (cond (decide ((wrap .i64 (a1 + (1 : Int))) < ((List.length a0.1 : Nat) : Int))) (some ⟨[.dat tI (t74_0 (a0.1, (a0.2.1, (a0.2.2.1, (a0.2.2.2.1, a0.2.2.2.2)))) (List.getD a0.1 (Int.toNat a1) (Tc.dflt tItem)) (List.getD a0.1 (Int.toNat (wrap .i64 (a1 + (1 : Int)))) (Tc.dflt tItem)))], []⟩) none) none) none) none)) := (I85.run_eq _).trans (by kernel_rfl)
end Go.Ev.M
