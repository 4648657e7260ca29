import Derived.Test.YtgjgjhhleppepaaDoorA2
import Derived.IntWalk
import Derived.Lib.ItoaNum
import Derived.Test.YtgjgjhhleppepaaDoorProg
set_option linter.unusedSimpArgs false
set_option linter.unusedVariables false
namespace Go.Ev
open Go

/-! ### the same runs over trees of slots (only for speed) -/
inductive Tr where
  | leaf
  | node (l : Tr) (v : FV) (r : Tr)

def oddN (i : Nat) : Bool := Nat.beq (Nat.mod i 2) 1
def halfN (i : Nat) : Nat := Nat.div (Nat.sub i 1) 2

def Tr.get : Tr → Nat → FV
  | .leaf, _ => .undef
  | .node l v r, i => cond (Nat.beq i 0) v (cond (oddN i) (l.get (halfN i)) (r.get (halfN i)))

def Tr.setK {ρ : Type} : Nat → Tr → Nat → FV → (Tr → ρ) → ρ
  | 0, t, _, _, k => k t
  | f + 1, t, i, v, k => match t with
    | .leaf => cond (Nat.beq i 0) (k (.node .leaf v .leaf)) (cond (oddN i) (Tr.setK f .leaf (halfN i) v fun l => k (.node l .undef .leaf)) (Tr.setK f .leaf (halfN i) v fun r => k (.node .leaf .undef r)))
    | .node l x r => cond (Nat.beq i 0) (k (.node l v r)) (cond (oddN i) (Tr.setK f l (halfN i) v fun l => k (.node l x r)) (Tr.setK f r (halfN i) v fun r => k (.node l x r)))

def Tr.set : Nat → Tr → Nat → FV → Tr
  | 0, t, _, _ => t
  | f + 1, t, i, v => match t with
    | .leaf => cond (Nat.beq i 0) (.node .leaf v .leaf) (cond (oddN i) (.node (Tr.set f .leaf (halfN i) v) .undef .leaf) (.node .leaf .undef (Tr.set f .leaf (halfN i) v)))
    | .node l x r => cond (Nat.beq i 0) (.node l v r) (cond (oddN i) (.node (Tr.set f l (halfN i) v) x r) (.node l x (Tr.set f r (halfN i) v)))

theorem Tr.setK_eq {ρ : Type} : ∀ (f : Nat) (t : Tr) (i : Nat) (v : FV) (k : Tr → ρ), Tr.setK f t i v k = k (Tr.set f t i v)
  | 0, t, i, v, k => rfl
  | f + 1, .leaf, i, v, k => by
    simp only [Tr.setK, Tr.set, Tr.setK_eq f]
    cases Nat.beq i 0 <;> cases oddN i <;> rfl
  | f + 1, .node l x r, i, v, k => by
    simp only [Tr.setK, Tr.set, Tr.setK_eq f]
    cases Nat.beq i 0 <;> cases oddN i <;> rfl

theorem half_lt {i f : Nat} (h : i < f + 1) (h0 : i ≠ 0) : halfN i < f := by
  show (i - 1) / 2 < f; omega
theorem oddN_eq (i : Nat) : oddN i = decide (i % 2 = 1) := by
  unfold oddN
  show Nat.beq (i % 2) 1 = _
  by_cases h : i % 2 = 1
  · simp [h]
  · rw [beq_no h]; simp [h]
theorem half_ne {i j : Nat} (hi : i ≠ 0) (hj : j ≠ 0) (h : i ≠ j) (hp : oddN i = oddN j) : halfN j ≠ halfN i := by
  rw [oddN_eq, oddN_eq] at hp
  have hp' : (i % 2 = 1) ↔ (j % 2 = 1) := by simpa using hp
  show ¬ ((j - 1) / 2 = (i - 1) / 2)
  omega

theorem Tr.get_set : ∀ (f : Nat) (t : Tr) (i j : Nat) (v : FV), i < f → (Tr.set f t i v).get j = if j = i then v else t.get j
  | 0, t, i, j, v, h => by omega
  | f + 1, t, i, j, v, h => by
    have e0 : ∀ n : Nat, n ≠ 0 → Nat.beq n 0 = false := fun n hn => beq_no hn
    have hl : ∀ n, (Tr.leaf).get n = .undef := fun n => rfl
    by_cases hi : i = 0
    · subst hi
      by_cases hj : j = 0
      · subst hj; cases t <;> rfl
      · rw [if_neg hj]
        cases t with
        | leaf => rw [show Tr.set (f + 1) Tr.leaf 0 v = .node .leaf v .leaf from rfl]; simp only [Tr.get, e0 j hj, cond_false]; cases oddN j <;> rfl
        | node l x r => rw [show Tr.set (f + 1) (.node l x r) 0 v = .node l v r from rfl]; simp only [Tr.get, e0 j hj, cond_false]
    · have hlt := half_lt h hi
      by_cases hj : j = 0
      · subst hj
        rw [if_neg (by omega)]
        cases t with
        | leaf => simp only [Tr.set, e0 i hi, cond_false]; cases oddN i <;> rfl
        | node l x r => simp only [Tr.set, e0 i hi, cond_false]; cases oddN i <;> rfl
      · by_cases hij : j = i
        · subst hij
          rw [if_pos rfl]
          cases t with
          | leaf => simp only [Tr.set, e0 j hj, cond_false]; cases ho : oddN j <;> simp [Tr.get, e0 j hj, ho, Tr.get_set f _ _ _ _ hlt]
          | node l x r => simp only [Tr.set, e0 j hj, cond_false]; cases ho : oddN j <;> simp [Tr.get, e0 j hj, ho, Tr.get_set f _ _ _ _ hlt]
        · rw [if_neg hij]
          by_cases hp : oddN i = oddN j
          · have hne := half_ne hi hj (fun e => hij e.symm) hp
            cases t with
            | leaf => simp only [Tr.set, e0 i hi, cond_false, hp]; cases ho : oddN j <;> simp [Tr.get, e0 j hj, ho, Tr.get_set f _ _ _ _ hlt, hne]
            | node l x r => simp only [Tr.set, e0 i hi, cond_false, hp]; cases ho : oddN j <;> simp [Tr.get, e0 j hj, ho, Tr.get_set f _ _ _ _ hlt, hne]
          · cases t with
            | leaf => cases hoi : oddN i <;> cases hoj : oddN j <;> first | exact absurd (hoi.trans hoj.symm) hp | simp [Tr.set, Tr.get, e0 j hj, e0 i hi, hoi, hoj]
            | node l x r => cases hoi : oddN i <;> cases hoj : oddN j <;> first | exact absurd (hoi.trans hoj.symm) hp | simp [Tr.set, Tr.get, e0 j hj, e0 i hi, hoi, hoj]

structure Fq where
  n : Nat
  t : Tr
  regs : List (Nat × Reg)

def Fq.slot (q : Fq) (i : Nat) : FV := cond (Nat.blt i q.n) (q.t.get i) .undef
def Fq.reg (q : Fq) (k : Nat) : Reg := regAt q.regs k
def Fq.setSK (q : Fq) (i : Nat) (v : FV) {ρ : Type} (k : Fq → ρ) : ρ := match q with
  | ⟨n, t, r⟩ => Tr.setK (Nat.succ i) t i v fun t => k ⟨n, t, r⟩
def regPutK {ρ : Type} : List (Nat × Reg) → Nat → Reg → (List (Nat × Reg) → ρ) → ρ
  | [], k, r, K => K [(k, r)]
  | (i, x) :: l, k, r, K => cond (Nat.beq i k) (K ((i, r) :: l)) (cond (Nat.blt k i) (K ((k, r) :: (i, x) :: l)) (regPutK l k r fun l' => K ((i, x) :: l')))
def Fq.setRK (q : Fq) (i : Nat) (v : Reg) {ρ : Type} (k : Fq → ρ) : ρ := match q with
  | ⟨n, t, r⟩ => regPutK r i v fun r => k ⟨n, t, r⟩
def Fq.to (q : Fq) : Fr := ⟨(List.range q.n).map q.t.get, q.regs⟩

theorem regPutK_eq {ρ : Type} : ∀ (l : List (Nat × Reg)) (k : Nat) (r : Reg) (K : List (Nat × Reg) → ρ), regPutK l k r K = K (regPut l k r)
  | [], k, r, K => rfl
  | (i, x) :: l, k, r, K => by
    simp only [regPutK, regPut, regPutK_eq l]
    cases Nat.beq i k <;> cases Nat.blt k i <;> rfl

theorem blt_eq (i n : Nat) : Nat.blt i n = decide (i < n) := by
  by_cases h : i < n
  · rw [show Nat.blt i n = true from Nat.ble_eq_true_of_le h]; simp [h]
  · have : Nat.blt i n = false := by
      cases hb : Nat.blt i n with
      | false => rfl
      | true => exact absurd (Nat.le_of_ble_eq_true hb) h
    simp [this, h]

theorem Fq.slot_eq (q : Fq) (i : Nat) : q.to.slot i = q.slot i := by
  unfold Fq.to Fr.slot Fq.slot
  simp only [List.getD_eq_getElem?_getD, List.getElem?_map, List.getElem?_range', blt_eq]
  by_cases h : i < q.n
  · simp [h]
  · simp [h, List.getElem?_eq_none]

theorem Fq.setSK_eq (q : Fq) (i : Nat) (v : FV) {ρ : Type} (k : Fq → ρ) : ∃ q' : Fq, q.setSK i v k = k q' ∧ q'.to = q.to.setS i v ∧ q'.n = q.n := by
  obtain ⟨n, t, r⟩ := q
  refine ⟨⟨n, Tr.set (Nat.succ i) t i v, r⟩, by simp only [Fq.setSK, Tr.setK_eq], ?_, rfl⟩
  unfold Fq.to Fr.setS
  simp only
  congr 1
  apply List.ext_getElem?
  intro j
  rw [List.getElem?_set]
  simp only [List.getElem?_map, List.length_map, List.length_range]
  by_cases hj : j < n
  · rw [List.getElem?_range hj]
    simp only [Option.map_some, Tr.get_set _ _ _ _ _ (Nat.lt_succ_self i)]
    by_cases hij : i = j
    · subst hij; simp [hj]
    · simp [hij]; intro e; exact absurd e.symm hij
  · rw [List.getElem?_eq_none (by simpa using hj)]
    by_cases hij : i = j
    · subst hij; simp [hj]
    · simp [hij]

theorem Fq.setRK_eq (q : Fq) (i : Nat) (v : Reg) {ρ : Type} (k : Fq → ρ) : ∃ q' : Fq, q.setRK i v k = k q' ∧ q'.to = q.to.setR i v := by
  obtain ⟨n, t, r⟩ := q
  exact ⟨⟨n, t, regPut r i v⟩, by simp only [Fq.setRK, regPutK_eq], rfl⟩

def Pr.execQ {α ρ : Type} : Pr α → Fq → (α → Fq → Option ρ) → Option ρ
  | .ret a, q, K => K a q
  | .fail, _, _ => none
  | .getS i k, q, K => (k (q.slot i)).execQ q K
  | .getR i k, q, K => (k (q.reg i)).execQ q K
  | .setS i v k, q, K => fcV v fun v => q.setSK i v fun q => k.execQ q K
  | .setR i r k, q, K => fcR r fun r => q.setRK i r fun q => k.execQ q K
  | .ite b p p', q, K => cond b (p.execQ q K) (p'.execQ q K)
  | .opt o k, q, K => o.bind fun v => (k v).execQ q K

theorem execQ_eq {α ρ : Type} : ∀ (p : Pr α) (q : Fq) (K : α → Fq → Option ρ) (K' : α → Fr → Option ρ), (∀ a q, K a q = K' a q.to) → p.execQ q K = p.exec q.to K'
  | .ret a, q, K, K', h => h _ _
  | .fail, _, _, _, _ => rfl
  | .getS i k, q, K, K', h => by simp only [Pr.execQ, Pr.exec, Fq.slot_eq]; exact execQ_eq (k _) _ _ _ h
  | .getR i k, q, K, K', h => execQ_eq (k _) _ _ _ h
  | .setS i v k, q, K, K', h => by
    simp only [Pr.execQ, Pr.exec, fcV_eq]
    obtain ⟨q', h1, h2, _⟩ := Fq.setSK_eq q i v (fun q => k.execQ q K)
    rw [h1, ← h2]; exact execQ_eq k _ _ _ h
  | .setR i r k, q, K, K', h => by
    simp only [Pr.execQ, Pr.exec, fcR_eq]
    obtain ⟨q', h1, h2⟩ := Fq.setRK_eq q i r (fun q => k.execQ q K)
    rw [h1, ← h2]; exact execQ_eq k _ _ _ h
  | .ite b p p', q, K, K', h => by simp only [Pr.execQ, Pr.exec]; rw [execQ_eq p _ _ _ h, execQ_eq p' _ _ _ h]
  | .opt o k, q, K, K', h => by
    cases o with
    | none => rfl
    | some v => exact execQ_eq (k v) _ _ _ h

def Pr.execTQ {α ρ : Type} : Pr α → Fq → List Nat → List Nat → (α → Fq → List Nat → List Nat → Option ρ) → Option ρ
  | .ret a, q, r, w, K => K a q r w
  | .fail, _, _, _, _ => none
  | .getS i k, q, r, w, K => (k (q.slot i)).execTQ q (2 * i :: r) w K
  | .getR i k, q, r, w, K => (k (q.reg i)).execTQ q ((2 * i + 1) :: r) w K
  | .setS i v k, q, r, w, K => fcV v fun v => q.setSK i v fun q => k.execTQ q r (2 * i :: w) K
  | .setR i x k, q, r, w, K => fcR x fun x => q.setRK i x fun q => k.execTQ q r ((2 * i + 1) :: w) K
  | .ite b p p', q, r, w, K => cond b (p.execTQ q r w K) (p'.execTQ q r w K)
  | .opt o k, q, r, w, K => match o with
    | some v => (k v).execTQ q r w K
    | none => none

theorem execTQ_eq {α ρ : Type} : ∀ (p : Pr α) (q : Fq) (r w : List Nat) (K : α → Fq → List Nat → List Nat → Option ρ) (K' : α → Fr → List Nat → List Nat → Option ρ),
    (∀ a q r w, K a q r w = K' a q.to r w) → p.execTQ q r w K = p.execT q.to r w K'
  | .ret a, q, r, w, K, K', h => h _ _ _ _
  | .fail, _, _, _, _, _, _ => rfl
  | .getS i k, q, r, w, K, K', h => by simp only [Pr.execTQ, Pr.execT, Fq.slot_eq]; exact execTQ_eq (k _) _ _ _ _ _ h
  | .getR i k, q, r, w, K, K', h => execTQ_eq (k _) _ _ _ _ _ h
  | .setS i v k, q, r, w, K, K', h => by
    simp only [Pr.execTQ, Pr.execT, fcV_eq]
    obtain ⟨q', h1, h2, _⟩ := Fq.setSK_eq q i v (fun q => k.execTQ q r (2 * i :: w) K)
    rw [h1, ← h2]; exact execTQ_eq k _ _ _ _ _ h
  | .setR i x k, q, r, w, K, K', h => by
    simp only [Pr.execTQ, Pr.execT, fcR_eq]
    obtain ⟨q', h1, h2⟩ := Fq.setRK_eq q i x (fun q => k.execTQ q r ((2 * i + 1) :: w) K)
    rw [h1, ← h2]; exact execTQ_eq k _ _ _ _ _ h
  | .ite b p p', q, r, w, K, K', h => by simp only [Pr.execTQ, Pr.execT]; rw [execTQ_eq p _ _ _ _ _ h, execTQ_eq p' _ _ _ _ _ h]
  | .opt o k, q, r, w, K, K', h => by
    cases o with
    | none => rfl
    | some v => exact execTQ_eq (k v) _ _ _ _ _ h

def runOpsQ (E : Env) (C : Cfg) (ops : List Oper) {ρ : Type} : List Oper → Fq → (Fq → Option ρ) → Option ρ
  | [], q, K => K q
  | o :: rest, q, K => (gop E C ops o).execQ q fun _ q' => runOpsQ E C ops rest q' K

def runOpsTQ (E : Env) (C : Cfg) (ops : List Oper) {ρ : Type} : List Oper → List (List Nat × List Nat) → Fq → (Fq → Option ρ) → Option ρ
  | [], ft, q, K => cond (indepF ops ft) (cond (edgesBack 0 ops) (K q) none) none
  | o :: rest, ft, q, K => (gop E C ops o).execTQ q [] [] fun _ q' r w => runOpsTQ E C ops rest (ft ++ [(r, cond o.guard.isSome w.dropLast w)]) q' K

theorem runOpsQ_eq {E : Env} {C : Cfg} {ops : List Oper} {ρ : Type} : ∀ (l : List Oper) (q : Fq) (K : Fq → Option ρ) (K' : Fr → Option ρ), (∀ q, K q = K' q.to) → runOpsQ E C ops l q K = runOpsF E C ops l q.to K'
  | [], q, K, K', h => h q
  | o :: l, q, K, K', h => by
    simp only [runOpsQ, runOpsF]
    exact execQ_eq _ _ _ _ fun _ q' => by rw [fcF_eq]; exact runOpsQ_eq l q' K K' h

theorem runOpsTQ_eq {E : Env} {C : Cfg} {ops : List Oper} {ρ : Type} : ∀ (l : List Oper) (ft : List (List Nat × List Nat)) (q : Fq) (K : Fq → Option ρ) (K' : Fr → Option ρ), (∀ q, K q = K' q.to) → runOpsTQ E C ops l ft q K = runOpsTF E C ops l ft q.to K'
  | [], ft, q, K, K', h => by simp only [runOpsTQ, runOpsTF, h]
  | o :: l, ft, q, K, K', h => by
    simp only [runOpsTQ, runOpsTF]
    exact execTQ_eq _ _ _ _ _ _ fun _ q' r w => by rw [fcF_eq]; exact runOpsTQ_eq l _ q' K K' h

/-! ### heads of loops -/
def pickQ : List Nat → Fq → List (Nat × FV)
  | [], _ => []
  | k :: ks, q => match q.slot k with
    | .undef => pickQ ks q
    | v => (k, v) :: pickQ ks q

def ownQ : List (Nat × Tc) → Nat → Fq → (Fq → Option Fr) → Option Fr
  | [], _, q, K => K q
  | (i, t) :: l, j, q, K => match q.slot i with
    | .nil0 => match q.reg (900 + j) with
      | .abs => q.setRK (900 + j) (.arr t []) fun q => q.setSK i (.slc (900 + j)) fun q => ownQ l (j + 1) q K
      | _ => none
    | _ => ownQ l (j + 1) q K

def nrmHQ (C : Cfg) (pre b : Nat) (q : Fq) (K : Fr → Option Fr) : Option Fr :=
  cond (sortedB 0 (loopCfg C.loops b).1) (ownQ (loopCfg C.loops b).2 0 q fun q1 =>
    (collectF q1.regs 200 (List.range pre ++ idP (pickQ (loopCfg C.loops b).1 q1)) []).bind fun ids =>
      K (mkF q1.n (rnP (newNo 500 pre ids) (pickQ (loopCfg C.loops b).1 q1)) ((numbered 0 (ids.map fun k => (q1.reg k).ren (newNo 500 pre ids))).map fun p => (cond (Nat.blt p.1 pre) p.1 (500 + p.1), p.2)))) ((nrmB C pre b q.to).bind K)

theorem fm_congr {α β : Type} {f g : α → Option β} : ∀ {l : List α}, (∀ x ∈ l, f x = g x) → l.filterMap f = l.filterMap g
  | [], _ => rfl
  | x :: l, h => by
    simp only [List.filterMap_cons]
    rw [h x (by simp), fm_congr fun y hy => h y (by simp [hy])]

theorem pick_fm : ∀ (l : List FV) (ks : List Nat) (i : Nat), sortedB i ks = true → pickS ks i l = ks.filterMap fun k => match l[k - i]? with
    | some .undef => none
    | some v => some (k, v)
    | none => none
  | l, [], i, h => by cases l <;> rfl
  | [], k :: ks, i, h => by
    simp only [pickS]
    symm
    rw [List.filterMap_eq_nil_iff]
    intro a _; rfl
  | v :: l, k :: ks, i, h => by
    have hh := h
    simp only [sortedB] at h
    cases hble : Nat.ble i k with
    | false => rw [hble] at h; cases h
    | true =>
      rw [hble] at h
      simp only [cond_true] at h
      have hk := Nat.le_of_ble_eq_true hble
      simp only [pickS]
      have hrest : ∀ (ks' : List Nat), sortedB (i + 1) ks' = true → (∀ k' ∈ ks', i + 1 ≤ k') → pickS ks' (i + 1) l = ks'.filterMap fun k => match (v :: l)[k - i]? with
          | some .undef => none
          | some v => some (k, v)
          | none => none := by
        intro ks' hs hge
        rw [pick_fm l ks' (i + 1) hs]
        refine fm_congr fun k' hk' => ?_
        have := hge k' hk'
        rw [show k' - i = (k' - (i + 1)) + 1 by omega]; rfl
      have hge : ∀ (ks' : List Nat) (j : Nat), sortedB j ks' = true → ∀ k' ∈ ks', j ≤ k' := by
        intro ks'
        induction ks' with
        | nil => intro j _ k' hk'; cases hk'
        | cons a ks' ih =>
          intro j hs k' hk'
          simp only [sortedB] at hs
          cases hb : Nat.ble j a with
          | false => rw [hb] at hs; cases hs
          | true =>
            rw [hb] at hs
            have := Nat.le_of_ble_eq_true hb
            rcases List.mem_cons.1 hk' with rfl | hk'
            · exact this
            · have := ih (a + 1) hs k' hk'; omega
      cases hb : Nat.beq k i with
      | true =>
        have := Nat.eq_of_beq_eq_true hb
        subst this
        simp only [cond_true, List.filterMap_cons, Nat.sub_self, List.getElem?_cons_zero]
        rw [hrest ks h (hge ks _ h)]
        cases v <;> rfl
      | false =>
        have hne : k ≠ i := fun e => by subst e; simp at hb
        have hs : sortedB (i + 1) (k :: ks) = true := by
          simp only [sortedB]
          have : Nat.ble (i + 1) k = true := Nat.ble_eq_true_of_le (by omega)
          rw [this]; exact h
        simp only [cond_false]
        exact hrest (k :: ks) hs (hge _ _ hs)

theorem pickQ_fm (q : Fq) : ∀ ks : List Nat, pickQ ks q = ks.filterMap fun k => match q.slot k with
    | .undef => none
    | v => some (k, v)
  | [] => rfl
  | k :: ks => by
    simp only [pickQ, List.filterMap_cons]
    rw [pickQ_fm q ks]
    cases q.slot k <;> rfl

theorem pickQ_eq (q : Fq) (ks : List Nat) (h : sortedB 0 ks = true) : pickS ks 0 q.to.slots = pickQ ks q := by
  rw [pick_fm _ _ _ h, pickQ_fm]
  refine fm_congr fun k _ => ?_
  rw [← Fq.slot_eq]
  unfold Fr.slot
  rw [Nat.sub_zero, List.getD_eq_getElem?_getD]
  cases hg : q.to.slots[k]? with
  | none => rfl
  | some v => cases v <;> rfl

theorem ownQ_eq : ∀ (l : List (Nat × Tc)) (j : Nat) (q : Fq) (K : Fq → Option Fr) (K' : Fr → Option Fr), (∀ q, K q = K' q.to) → ownQ l j q K = (ownS l j q.to).bind K'
  | [], j, q, K, K', h => h q
  | (i, t) :: l, j, q, K, K', h => by
    simp only [ownQ, ownS, Fq.slot_eq]
    have hr : q.to.reg (900 + j) = q.reg (900 + j) := rfl
    rw [hr]
    cases q.slot i <;> try exact ownQ_eq l (j + 1) q K K' h
    cases hq : q.reg (900 + j) <;> try rfl
    obtain ⟨q1, h1, h2⟩ := Fq.setRK_eq q (900 + j) (.arr t []) (fun q => q.setSK i (.slc (900 + j)) fun q => ownQ l (j + 1) q K)
    obtain ⟨q2, h3, h4, _⟩ := Fq.setSK_eq q1 i (.slc (900 + j)) (fun q => ownQ l (j + 1) q K)
    simp only
    rw [h1, h3, ← h2, ← h4]
    exact ownQ_eq l (j + 1) q2 K K' h

theorem nrmHQ_eq (C : Cfg) (pre b : Nat) (q : Fq) (K : Fr → Option Fr) : nrmHQ C pre b q K = nrmH C pre b q.to K := by
  unfold nrmHQ nrmH
  cases h : sortedB 0 (loopCfg C.loops b).1 with
  | false => rfl
  | true =>
    simp only [cond_true]
    unfold normF
    rw [Option.bind_assoc]
    refine ownQ_eq _ _ _ _ _ fun q1 => ?_
    rw [pickQ_eq q1 _ h]
    have hn : q1.to.slots.length = q1.n := by simp [Fq.to]
    rw [hn]
    have hr : q1.to.regs = q1.regs := rfl
    rw [hr]
    cases collectF q1.regs 200 (List.range pre ++ idP (pickQ (loopCfg C.loops b).1 q1)) [] <;> rfl

/-! ### code -/
def preQ {ρ : Type} : List Nat → Nat → Fq → (Fq → ρ) → ρ
  | [], _, q, K => K q
  | n :: l, id, q, K => cond (Nat.beq (n / 1000) (300 + id)) (match q.slot (n % 1000) with
    | .slc k => match q.reg k with
      | .arr t xs => q.setRK k (.frz t xs) fun q => preQ l id q K
      | _ => preQ l id q K
    | _ => preQ l id q K) (preQ l id q K)

theorem preQ_eq {ρ : Type} : ∀ (l : List Nat) (id : Nat) (q : Fq) (K : Fq → ρ) (K' : Fr → ρ), (∀ q, K q = K' q.to) → preQ l id q K = K' (preF l id q.to)
  | [], id, q, K, K', h => h q
  | n :: l, id, q, K, K', h => by
    simp only [preQ, preF, Fq.slot_eq]
    cases Nat.beq (n / 1000) (300 + id) with
    | false => exact preQ_eq l id q K K' h
    | true =>
      simp only [cond_true]
      have hr : ∀ k, q.to.reg k = q.reg k := fun _ => rfl
      cases q.slot (n % 1000) with
      | slc k =>
        simp only [hr]
        cases q.reg k with
        | arr t xs =>
          simp only
          obtain ⟨q1, h1, h2⟩ := Fq.setRK_eq q k (.frz t xs) (fun q => preQ l id q K)
          rw [h1, ← h2]
          exact preQ_eq l id q1 K K' h
        | _ => exact preQ_eq l id q K K' h
      | _ => exact preQ_eq l id q K K' h

noncomputable def runSQ (E : Env) (C : Cfg) (pre : Nat) (H : List It → Ex → Fr → Option Fr) : Nat → Code → List It → Fq → (Ex → Fq → Option Fr) → Option Fr
  | _, .skip, _, q, K => K .normal q
  | _, .region id ops draw, _, q, K => cond draw (preQ C.cons id q fun q => runOpsTQ E C ops.toList ops.toList [] q (K .normal)) (runOpsQ E C ops.toList ops.toList q (K .normal))
  | b, .seq x y, k, q, K => runSQ E C pre H b x (.code b y :: k) q fun e q' => match e with
    | .normal => runSQ E C pre H b y k q' K
    | .exit i => K (.exit i) q'
    | .ret => K .ret q'
  | b, .cond c x y, k, q, K => match c with
    | .tmp t => match q.slot t with
      | .dat .bool z => cond z (q.setSK t (dB true) fun q => runSQ E C pre H b x k q K) (q.setSK t (dB false) fun q => runSQ E C pre H b y k q K)
      | .ub => both (q.setSK t (dB true) fun q => runSQ E C pre H b x k q K) (q.setSK t (dB false) fun q => runSQ E C pre H b y k q K)
      | _ => none
    | .const (.bool z) => cond z (runSQ E C pre H b x k q K) (runSQ E C pre H b y k q K)
    | _ => none
  | _, .block i x, k, q, K => runSQ E C pre H i x (.blk i :: k) q fun e q' => match e with
    | .normal => K .normal q'
    | .exit j => cond (Nat.beq j i) (K .normal q') (K (.exit j) q')
    | .ret => K .ret q'
  | b, .loop x, k, q, _ => nrmHQ C pre b q fun fr1 => H (.code b x :: .lp b x :: k) .normal fr1
  | _, .exit i, _, q, K => K (.exit i) q
  | _, .ret, _, q, K => K .ret q
  | _, _, _, _, _ => none

theorem runSQ_eq {E : Env} {C : Cfg} {pre : Nat} {H : List It → Ex → Fr → Option Fr} : ∀ (c : Code) (b : Nat) (k : List It) (q : Fq) (K : Ex → Fq → Option Fr) (K' : Ex → Fr → Option Fr), (∀ e q, K e q = K' e q.to) →
    runSQ E C pre H b c k q K = runS E C pre H b c k q.to K'
  | .skip, b, k, q, K, K', h => h _ _
  | .region id ops draw, b, k, q, K, K', h => by
    simp only [runSQ, runS]
    rw [preQ_eq C.cons id q _ (fun fr => runOpsTF E C ops.toList ops.toList [] fr (K' .normal)) (fun q => runOpsTQ_eq _ _ q (K .normal) (K' .normal) (h .normal)), runOpsQ_eq _ q (K .normal) (K' .normal) (h .normal)]
  | .seq x y, b, k, q, K, K', h => by
    simp only [runSQ, runS]
    refine runSQ_eq x b _ q _ _ fun e q' => ?_
    cases e with
    | normal => exact runSQ_eq y b k q' K K' h
    | exit i => exact h _ _
    | ret => exact h _ _
  | .cond c x y, b, k, q, K, K', h => by
    simp only [runSQ, runS]
    cases c with
    | tmp t =>
      simp only [Fq.slot_eq]
      cases q.slot t with
      | dat tc z =>
        cases tc with
        | bool =>
          simp only
          obtain ⟨q1, h1, h2, _⟩ := Fq.setSK_eq q t (dB true) (fun q => runSQ E C pre H b x k q K)
          obtain ⟨q2, h3, h4, _⟩ := Fq.setSK_eq q t (dB false) (fun q => runSQ E C pre H b y k q K)
          rw [h1, h3, ← h2, ← h4, runSQ_eq x b k q1 K K' h, runSQ_eq y b k q2 K K' h]
        | _ => rfl
      | ub =>
        simp only
        obtain ⟨q1, h1, h2, _⟩ := Fq.setSK_eq q t (dB true) (fun q => runSQ E C pre H b x k q K)
        obtain ⟨q2, h3, h4, _⟩ := Fq.setSK_eq q t (dB false) (fun q => runSQ E C pre H b y k q K)
        rw [h1, h3, ← h2, ← h4, runSQ_eq x b k q1 K K' h, runSQ_eq y b k q2 K K' h]
      | _ => rfl
    | const v =>
      cases v with
      | bool z => simp only; rw [runSQ_eq x b k q K K' h, runSQ_eq y b k q K K' h]
      | _ => rfl
    | _ => rfl
  | .block i x, b, k, q, K, K', h => by
    simp only [runSQ, runS]
    refine runSQ_eq x i _ q _ _ fun e q' => ?_
    cases e with
    | normal => exact h _ _
    | exit j => simp only [h]
    | ret => exact h _ _
  | .loop x, b, k, q, K, K', h => by simp only [runSQ, runS, nrmHQ_eq]
  | .exit i, b, k, q, K, K', h => h _ _
  | .ret, b, k, q, K, K', h => h _ _
  | .rangeFunc _ _ _ _, b, k, q, K, K', h => rfl
  | .scope _, b, k, q, K, K', h => rfl
  | .label _, b, k, q, K, K', h => rfl
  | .goto _, b, k, q, K, K', h => rfl
  | .refuse _, b, k, q, K, K', h => rfl

noncomputable def contSQ (E : Env) (C : Cfg) (pre : Nat) (F : Ex → Fq → Option Fr) (H : List It → Ex → Fr → Option Fr) : List It → Ex → Fq → Option Fr
  | [], e, q => F e q
  | .code b c :: k, .normal, q => runSQ E C pre H b c k q (contSQ E C pre F H k)
  | .code _ _ :: k, e, q => contSQ E C pre F H k e q
  | .blk i :: k, .exit j, q => cond (Nat.beq j i) (contSQ E C pre F H k .normal q) (contSQ E C pre F H k (.exit j) q)
  | .blk _ :: k, e, q => contSQ E C pre F H k e q
  | .lp b x :: k, .normal, q => nrmHQ C pre b q fun fr1 => H (.code b x :: .lp b x :: k) .normal fr1
  | .lp _ _ :: k, e, q => contSQ E C pre F H k e q

theorem contSQ_eq {E : Env} {C : Cfg} {pre : Nat} {F : Ex → Fq → Option Fr} {F' : Ex → Fr → Option Fr} {H : List It → Ex → Fr → Option Fr} (hF : ∀ e q, F e q = F' e q.to) :
    ∀ (k : List It) (e : Ex) (q : Fq), contSQ E C pre F H k e q = contS E C pre F' H k e q.to
  | [], e, q => hF e q
  | .code b c :: k, .normal, q => by
    simp only [contSQ, contS]
    exact runSQ_eq c b k q _ _ (contSQ_eq hF k)
  | .code _ _ :: k, .exit i, q => by simp only [contSQ, contS]; exact contSQ_eq hF k _ q
  | .code _ _ :: k, .ret, q => by simp only [contSQ, contS]; exact contSQ_eq hF k _ q
  | .blk i :: k, .normal, q => by simp only [contSQ, contS]; exact contSQ_eq hF k _ q
  | .blk i :: k, .ret, q => by simp only [contSQ, contS]; exact contSQ_eq hF k _ q
  | .blk i :: k, .exit j, q => by simp only [contSQ, contS]; rw [contSQ_eq hF k, contSQ_eq hF k]
  | .lp b x :: k, .normal, q => by simp only [contSQ, contS, nrmHQ_eq]
  | .lp _ _ :: k, .exit i, q => by simp only [contSQ, contS]; exact contSQ_eq hF k _ q
  | .lp _ _ :: k, .ret, q => by simp only [contSQ, contS]; exact contSQ_eq hF k _ q

def finQ (E : Env) (pre : Nat) (rs : List ResultVar) (ms : List RM) : Ex → Fq → Option Fr
  | .exit _, _ => none
  | _, q => ((resV E rs).bind (resM 0 ms)).execQ q fun l q' => pack pre pre ⟨l, q'.regs⟩

theorem finQ_eq (E : Env) (pre : Nat) (rs : List ResultVar) (ms : List RM) (e : Ex) (q : Fq) : finQ E pre rs ms e q = fin E pre rs ms e q.to := by
  cases e with
  | exit i => rfl
  | normal => exact execQ_eq _ _ _ _ fun _ _ => rfl
  | ret => exact execQ_eq _ _ _ _ fun _ _ => rfl

/-! ### where a run begins -/
def mkT : List (Nat × FV) → Tr → Tr
  | [], t => t
  | (i, v) :: l, t => mkT l (Tr.set (Nat.succ i) t i v)
def mkTK {ρ : Type} : List (Nat × FV) → Tr → (Tr → ρ) → ρ
  | [], t, k => k t
  | (i, v) :: l, t, k => Tr.setK (Nat.succ i) t i v fun t => mkTK l t k
theorem mkTK_eq {ρ : Type} : ∀ (l : List (Nat × FV)) (t : Tr) (k : Tr → ρ), mkTK l t k = k (mkT l t)
  | [], t, k => rfl
  | (i, v) :: l, t, k => by simp only [mkTK, mkT, Tr.setK_eq, mkTK_eq l]

def ascB : Nat → List (Nat × FV) → Bool
  | _, [] => true
  | i, p :: l => cond (Nat.ble i p.1) (ascB (p.1 + 1) l) false

theorem mkT_get : ∀ (l : List (Nat × FV)) (t : Tr) (i : Nat), ascB i l = true → ∀ j, j < i → (mkT l t).get j = t.get j
  | [], t, i, h, j, hj => rfl
  | (k, v) :: l, t, i, h, j, hj => by
    simp only [ascB] at h
    cases hb : Nat.ble i k with
    | false => rw [hb] at h; cases h
    | true =>
      rw [hb] at h
      have := Nat.le_of_ble_eq_true hb
      simp only [mkT]
      rw [mkT_get l _ (k + 1) h j (by omega), Tr.get_set _ _ _ _ _ (Nat.lt_succ_self k), if_neg (by omega)]

theorem mkT_mkS : ∀ (n i : Nat) (l : List (Nat × FV)) (t : Tr), ascB i l = true → (∀ j, i ≤ j → t.get j = .undef) → (List.range' i n).map (mkT l t).get = mkS i n l
  | 0, i, l, t, h, ht => by cases l <;> rfl
  | n + 1, i, [], t, h, ht => by
    simp only [mkS, List.range'_succ, List.map_cons, mkT]
    rw [ht i (Nat.le_refl _)]
    have := mkT_mkS n (i + 1) [] t rfl (fun j hj => ht j (by omega))
    simp only [mkT] at this
    rw [this]
  | n + 1, i, (k, v) :: l, t, h, ht => by
    have hh := h
    simp only [ascB] at h
    cases hb : Nat.ble i k with
    | false => rw [hb] at h; cases h
    | true =>
      rw [hb] at h
      simp only [cond_true] at h
      have hk := Nat.le_of_ble_eq_true hb
      simp only [mkS, List.range'_succ, List.map_cons]
      have hs : ∀ j, (Tr.set (Nat.succ k) t k v).get j = if j = k then v else t.get j := fun j => Tr.get_set _ _ _ _ _ (Nat.lt_succ_self k)
      cases he : Nat.beq i k with
      | true =>
        have := Nat.eq_of_beq_eq_true he
        subst this
        simp only [cond_true, mkT]
        rw [mkT_get l _ (i + 1) h i (Nat.lt_succ_self i), hs, if_pos rfl]
        rw [mkT_mkS n (i + 1) l _ h (fun j hj => by rw [hs, if_neg (by omega)]; exact ht j (by omega))]
      | false =>
        have hne : i ≠ k := fun e => by subst e; simp at he
        simp only [cond_false]
        have h2 : ascB (i + 1) ((k, v) :: l) = true := by
          simp only [ascB]
          have : Nat.ble (i + 1) k = true := Nat.ble_eq_true_of_le (by omega)
          rw [this]; exact h
        rw [mkT_get ((k, v) :: l) t (i + 1) h2 i (Nat.lt_succ_self i), ht i (Nat.le_refl _), mkT_mkS n (i + 1) _ t h2 (fun j hj => ht j (by omega))]

theorem mkF_to (n : Nat) (l : List (Nat × FV)) (r : List (Nat × Reg)) (h : ascB 0 l = true) : mkF n l r = Fq.to ⟨n, mkT l .leaf, r⟩ := by
  unfold mkF Fq.to
  simp only
  rw [List.range_eq_range', mkT_mkS n 0 l .leaf h (fun j _ => rfl)]
end Go.Ev

set_option linter.unusedSimpArgs false
set_option linter.unusedVariables false
namespace Go.Ev
open Go

/-- What comes out of a piece of code, when less is left to do. -/
def Left (E : Env) (C : Cfg) (pre : Nat) (F : Ex → Fr → Option Fr) (w0 : World) (en : Ent) (V0 : Vw) (n : Nat) (k : List It) (out : Fr) (e : Exit) (a : Act) (w : World) : Prop :=
  ∃ (fr' : Fr) (n' : Nat) (e' : Ex), n' < n ∧ ex E C pre F n' k e' fr' = some out ∧ e = e'.to ∧ InvW w0 en V0 fr' a w

theorem left_mono {E : Env} {C : Cfg} {pre : Nat} {F : Ex → Fr → Option Fr} {w0 : World} {en : Ent} {V0 : Vw} {n m : Nat} {k : List It} {out : Fr} {e : Exit} {a : Act} {w : World} (h : n ≤ m)
    (hl : Left E C pre F w0 en V0 n k out e a w) : Left E C pre F w0 en V0 m k out e a w := by
  obtain ⟨fr', n', e', h1, h2⟩ := hl
  exact ⟨fr', n', e', Nat.lt_of_lt_of_le h1 h, h2⟩

theorem ex_pos {E : Env} {C : Cfg} {pre : Nat} {F : Ex → Fr → Option Fr} {n : Nat} {k : List It} {e : Ex} {fr out : Fr} (h : ex E C pre F n k e fr = some out) :
    ∃ m, n = m + 1 ∧ stepF E C pre F (ex E C pre F m) k e fr = some out := by
  cases n with
  | zero => cases h
  | succ m => exact ⟨m, rfl, h⟩

theorem preF_ok {w0 : World} {en : Ent} {V0 : Vw} {a : Act} {w : World} : ∀ (l : List Nat) (id : Nat) (fr : Fr), InvW w0 en V0 fr a w → InvW w0 en V0 (preF l id fr) a w
  | [], id, fr, h => h
  | n :: l, id, fr, h => by
    simp only [preF]
    cases Nat.beq (n / 1000) (300 + id) with
    | false => exact preF_ok l id fr h
    | true =>
      simp only [cond_true]
      cases fr.slot (n % 1000) with
      | slc k =>
        simp only
        cases hk : fr.reg k with
        | arr t xs =>
          refine preF_ok l id _ ?_
          obtain ⟨⟨hd, loc, S, hc, hs, h0⟩, hsm⟩ := h
          obtain ⟨S1, h1, h2, _⟩ := ctx_freeze hc hk
          rw [← setR_reg] at h1 h2
          exact ⟨⟨hd, loc, S1, h1, RelVs_mono h2 _ _ hs, Vw.le_trans h0 h2⟩, hsm⟩
        | _ => exact preF_ok l id fr h
      | _ => exact preF_ok l id fr h

theorem code_ok {P : Program} {E : Env} (hE : EnvOk P E) (hm : P.follows .mixedOrders = true) {C : Cfg} {w0 : World} {en : Ent} {V0 : Vw} (hG : E.gl V0.S V0.h) {pre : Nat} (hb : Below V0 pre) {F : Ex → Fr → Option Fr} {out : Fr} :
    ∀ (n : Nat) (c : Code) (b : Nat) (k : List It) (fr : Fr) (a : Act) (w : World), ex E C pre F n (.code b c :: k) .normal fr = some out → InvW w0 en V0 fr a w →
      c.wp P (Left E C pre F w0 en V0 n k out) a w := by
  intro n
  induction n using Nat.strongRecOn with
  | _ n ih =>
    intro c b k fr a w h hi
    replace h := ex_pos h; obtain ⟨m, rfl, hs⟩ := h
    replace h := hs; clear hs
    have lt : m < m + 1 := Nat.lt_succ_self m
    cases c with
    | skip => exact wp_skip ⟨fr, m, .normal, lt, h, rfl, hi⟩
    | region id ops draw =>
      simp only [stepF] at h
      cases draw with
      | true => exact draw_ok hE hm hG (fun fr' a' w' h' hi' => ⟨fr', m, .normal, lt, h', rfl, hi'⟩) h (preF_ok C.cons id fr hi)
      | false => exact wp_region_list (runOps_ok hE hG (fun fr' a' w' h' hi' => ⟨fr', m, .normal, lt, h', rfl, hi'⟩) _ _ _ _ h hi)
    | seq x y =>
      simp only [stepF] at h
      refine wp_seq (wp_mono (ih m lt x b _ fr a w h hi) ?_)
      rintro e a' w' ⟨fr', n', e', h1, h2, rfl, hi'⟩
      cases e' with
      | normal => exact wp_mono (ih n' (by omega) y b k fr' a' w' h2 hi') fun e a w hl => left_mono (by omega) hl
      | exit i =>
        obtain ⟨m', rfl, h3⟩ := ex_pos h2
        exact ⟨fr', m', .exit i, by omega, h3, rfl, hi'⟩
      | ret =>
        obtain ⟨m', rfl, h3⟩ := ex_pos h2
        exact ⟨fr', m', .ret, by omega, h3, rfl, hi'⟩
    | cond c x y =>
      simp only [stepF] at h
      split at h
      · rename_i t
        split at h
        · rename_i q hq
          have hev := (eval_slot hi.1.2.choose_spec.choose_spec.2.1 hq).1
          refine wp_cond hev ?_
          cases q with
          | true => exact wp_mono (ih m lt x b k _ a w h ⟨inv_setB hi.1 hq, hi.2⟩) fun e a w hl => left_mono (by omega) hl
          | false => exact wp_mono (ih m lt y b k _ a w h ⟨inv_setB hi.1 hq, hi.2⟩) fun e a w hl => left_mono (by omega) hl
        · rename_i hq
          obtain ⟨q, hev, hget⟩ := eval_ub hi.1.2.choose_spec.choose_spec.2.1 hq
          obtain ⟨g1, g2⟩ := both_some.1 h
          refine wp_cond hev ?_
          cases q with
          | true => exact wp_mono (ih m lt x b k _ a w g1 ⟨inv_setU hi.1 hget, hi.2⟩) fun e a w hl => left_mono (by omega) hl
          | false => exact wp_mono (ih m lt y b k _ a w g2 ⟨inv_setU hi.1 hget, hi.2⟩) fun e a w hl => left_mono (by omega) hl
        · cases h
      · rename_i q
        refine wp_cond (t := q) rfl ?_
        cases q with
        | true => exact wp_mono (ih m lt x b k _ a w h hi) fun e a w hl => left_mono (by omega) hl
        | false => exact wp_mono (ih m lt y b k _ a w h hi) fun e a w hl => left_mono (by omega) hl
      · cases h
    | block i x =>
      simp only [stepF] at h
      refine wp_block (wp_mono (ih m lt x i _ fr a w h hi) ?_)
      rintro e a' w' ⟨fr', n', e', h1, h2, rfl, hi'⟩
      obtain ⟨m', rfl, h3⟩ := ex_pos h2
      cases e' with
      | normal => exact ⟨fr', m', .normal, by omega, h3, rfl, hi'⟩
      | exit j =>
        simp only [Ex.to, Exit.inBlock]
        simp only [stepF] at h3
        cases hj : Nat.beq j i with
        | true =>
          rw [hj] at h3
          rw [if_pos (Nat.eq_of_beq_eq_true hj)]
          exact ⟨fr', m', .normal, by omega, h3, rfl, hi'⟩
        | false =>
          rw [hj] at h3
          rw [if_neg (by rintro rfl; simp at hj)]
          exact ⟨fr', m', .exit j, by omega, h3, rfl, hi'⟩
      | ret => exact ⟨fr', m', .ret, by omega, h3, rfl, hi'⟩
    | loop x =>
      simp only [stepF] at h
      refine wp_loop_ghost (fun q a w => q < m + 1 ∧ ∃ fr, ex E C pre F q (.lp b x :: k) .normal fr = some out ∧ InvW w0 en V0 fr a w) m ⟨lt, fr, h, hi⟩ ?_
      rintro q a w ⟨hq, fr, h, hi⟩
      obtain ⟨q', rfl, h1⟩ := ex_pos h
      simp only [stepF] at h1
      cases hn : nrmB C pre b fr with
      | none => rw [hn] at h1; cases h1
      | some fr1 =>
        rw [hn] at h1
        simp only [Option.bind_some] at h1
        refine wp_mono (ih q' (by omega) x b _ fr1 a w h1 ⟨norm_ok hn hi.1 hb, hi.2⟩) ?_
        rintro e a' w' ⟨fr', n', e', h2, h3, rfl, hi'⟩
        cases e' with
        | normal => exact ⟨n', by omega, by omega, fr', h3, hi'⟩
        | exit i =>
          obtain ⟨m', rfl, h4⟩ := ex_pos h3
          exact ⟨fr', m', .exit i, by omega, h4, rfl, hi'⟩
        | ret =>
          obtain ⟨m', rfl, h4⟩ := ex_pos h3
          exact ⟨fr', m', .ret, by omega, h4, rfl, hi'⟩
    | exit i => exact wp_exit ⟨fr, m, .exit i, lt, h, rfl, hi⟩
    | ret => exact wp_ret ⟨fr, m, .ret, lt, h, rfl, hi⟩
    | rangeFunc _ _ _ _ => cases h
    | scope _ => cases h
    | label _ => cases h
    | goto _ => cases h
    | refuse _ => cases h

/-- What a function is for its evaluation. -/
structure FnI where
  E : Env
  C : Cfg
  fn : Func
  code : Code
  ms : List RM
  pre : Nat

def FnI.F (I : FnI) : Ex → Fr → Option Fr := fin I.E I.pre I.fn.results.toList I.ms

/-- The state in which something is still to be done. -/
noncomputable def FnI.T (I : FnI) (k : List It) (fr : Fr) : Option Fr := Ev.T I.E I.C I.pre I.F k .normal fr

/-- The same, one stretch further. -/
noncomputable def FnI.G (I : FnI) (b : Nat) (c : Code) (k : List It) (fr : Fr) : Option Fr :=
  runS I.E I.C I.pre (fun k e fr => match e with | .normal => I.T k fr | e => Ev.T I.E I.C I.pre I.F k e fr) b c k fr (contS I.E I.C I.pre I.F (fun k e fr => match e with | .normal => I.T k fr | e => Ev.T I.E I.C I.pre I.F k e fr) k)

theorem FnI.T_eq (I : FnI) (b : Nat) (c : Code) (k : List It) (fr : Fr) : I.T (.code b c :: k) fr = I.G b c k fr := by
  have : (fun (k : List It) (e : Ex) (fr : Fr) => match e with | .normal => I.T k fr | e => Ev.T I.E I.C I.pre I.F k e fr) = Ev.T I.E I.C I.pre I.F := by
    funext k e fr
    cases e <;> rfl
  unfold FnI.G
  rw [this]
  exact T_code b c k fr

def FnI.FQ (I : FnI) : Ex → Fq → Option Fr := finQ I.E I.pre I.fn.results.toList I.ms

/-- The same over a tree of slots. -/
noncomputable def FnI.GQ (I : FnI) (b : Nat) (c : Code) (k : List It) (q : Fq) : Option Fr :=
  runSQ I.E I.C I.pre (fun k e fr => match e with | .normal => I.T k fr | e => Ev.T I.E I.C I.pre I.F k e fr) b c k q (contSQ I.E I.C I.pre I.FQ (fun k e fr => match e with | .normal => I.T k fr | e => Ev.T I.E I.C I.pre I.F k e fr) k)

theorem FnI.GQ_eq (I : FnI) (b : Nat) (c : Code) (k : List It) (q : Fq) : I.GQ b c k q = I.G b c k q.to := by
  unfold FnI.GQ FnI.G
  exact runSQ_eq c b k q _ _ fun e q => contSQ_eq (fun e q => finQ_eq _ _ _ _ e q) k e q

/-- From a frame of which most slots are empty. -/
noncomputable def FnI.GF (I : FnI) (b : Nat) (c : Code) (k : List It) (n : Nat) (l : List (Nat × FV)) (r : List (Nat × Reg)) : Option Fr :=
  cond (ascB 0 l) (mkTK l .leaf fun t => I.GQ b c k ⟨n, t, r⟩) (I.G b c k (mkF n l r))

theorem FnI.GF_eq (I : FnI) (b : Nat) (c : Code) (k : List It) (n : Nat) (l : List (Nat × FV)) (r : List (Nat × Reg)) : I.GF b c k n l r = I.G b c k (mkF n l r) := by
  unfold FnI.GF
  cases h : ascB 0 l with
  | false => rfl
  | true => simp only [cond_true, mkTK_eq, FnI.GQ_eq, mkF_to n l r h]

/-- The run of the whole function. -/
noncomputable def FnI.run (I : FnI) (pk : Fr) : Option Fr :=
  cond (pk.regs.all fun p => Nat.blt p.1 I.pre) (I.T [.code 0 I.code] ⟨pk.slots ++ List.replicate (I.fn.ntmps - pk.slots.length) .undef, pk.regs⟩) none

theorem FnI.sound {P : Program} (I : FnI) (hE : EnvOk P I.E) (hm : P.follows .mixedOrders = true) {f : FuncId} (hf : P.funcs[f]? = some I.fn) (hbody : I.fn.body = some I.code)
    {s : Spec} (hs : ∀ pk out, s.ok pk = true → s.fn pk = some out → I.run pk = some out) : Sound P I.E.gl f s := by
  intro pk out hok hout vals w loc S hcore hG hrel
  have hrun := hs pk out hok hout
  unfold FnI.run at hrun
  cases hall : pk.regs.all fun p => Nat.blt p.1 I.pre with
  | false => rw [hall] at hrun; cases hrun
  | true =>
    rw [hall] at hrun
    simp only [cond_true, FnI.T] at hrun
    obtain ⟨n, hrun⟩ := T_iff.1 hrun
    have habs : ∀ k, I.pre ≤ k → pk.reg k = .abs := by
      intro k hk
      refine Classical.byContradiction fun hne => ?_
      have hmem := regAt_mem (l := pk.regs) (k := k) rfl hne
      have := List.all_eq_true.1 hall _ hmem
      simp [blt_dec] at this
      omega
    have hb : Below (view pk.reg loc S w.heap) I.pre := view_below habs
    refine calls_of_wp hf hbody ?_
    have hi : Inv (entOf pk loc S w.heap) (view pk.reg loc S w.heap) ⟨pk.slots ++ List.replicate (I.fn.ntmps - pk.slots.length) .undef, pk.regs⟩
        { tmps := vals.toArray ++ Array.replicate (I.fn.ntmps - vals.toArray.size) undef, defers := [] } w.heap := by
      refine ⟨rfl, loc, S, ⟨hcore, ⟨Nat.le_refl _, fun _ _ _ => rfl, fun _ h => h, fun _ h => .inl h, fun k hk => .inl ⟨k, hk, rfl⟩, fun b hb ⟨k, hk, e⟩ => hcore.nS k hk (e ▸ hb), hcore.bS⟩⟩, ?_, Vw.le_refl _⟩
      have hl := RelVs_len _ _ hrel
      simp only [Array.toList_append, Array.toList_replicate]
      refine RelVs_app _ _ _ _ hrel (RelVs_undef _ _ ?_)
      simp [hl]
    refine wp_mono (code_ok (w0 := w) hE hm hG hb n I.code 0 [] _ _ w hrun ⟨hi, Sm.rfl'⟩) ?_
    rintro e a' w' ⟨fr', n', e', h1, h2, rfl, hi'⟩
    obtain ⟨m', rfl, h'⟩ := ex_pos h2
    have hfin : ((resV I.E I.fn.results.toList).bind (resM 0 I.ms)).exec fr' (fun l fr' => pack I.pre I.pre ⟨l, fr'.regs⟩) = some out ∧ (e'.to = .normal ∨ e'.to = .ret) := by
      cases e' with
      | normal => exact ⟨h', .inl rfl⟩
      | exit i => simp [stepF, FnI.F, fin] at h'
      | ret => exact ⟨h', .inr rfl⟩
    obtain ⟨hfin, he⟩ := hfin
    rw [Pr.exec_go] at hfin
    cases hg : ((resV I.E I.fn.results.toList).bind (resM 0 I.ms)).go fr' with
    | none => rw [hg] at hfin; cases hfin
    | some x =>
      obtain ⟨l', fr2⟩ := x
      rw [hg] at hfin
      simp only [Option.bind_some] at hfin
      obtain ⟨vs, fr1, q1, q2⟩ := Pr.go_bind_some hg
      obtain ⟨⟨hd, loc1, S1, hc1, hs1, h0⟩, hsm⟩ := hi'
      obtain ⟨rfl, us, ht, hv⟩ := resV_ok hE _ _ _ _ q1 hc1.core hs1
      obtain ⟨loc2, S2, k1, k2, k3⟩ := resM_ok I.ms 0 _ l' _ _ _ loc1 S1 q2 hc1 hv
      obtain ⟨loc3, g1, g2, g3⟩ := pack_ok (fr := ⟨l', fr2.regs⟩) hfin (loc := loc2) (S := S2) k1 k3 (Vw.le_trans h0 k2) hb
      have hres := results_run ht
      have hpost : a'.defers = [] ∧ ∃ v, (results I.fn a'.tmps).run P w' = .ok v w' ∧ ∃ u, Ending.returned v = .returned u ∧ Sm w w' ∧ ∃ loc' S', Ctx (entOf pk loc S w.heap) out.reg loc' S' w'.heap ∧
          (view pk.reg loc S w.heap).le (view out.reg loc' S' w'.heap) ∧ RelV (view out.reg loc' S' w'.heap) (resFV out.slots) u :=
        ⟨hd, _, hres, _, rfl, hsm, loc3, S2, g1, g3, resFV_ok g2⟩
      rcases he with he | he <;> rw [he] <;> exact hpost

end Go.Ev

set_option linter.unusedSimpArgs false
set_option linter.unusedVariables false
namespace Go.Ev
open Go

/-! ### short ways to write things -/
abbrev wrap : IntKind → Int → Int := IntKind.wrap
abbrev tI : Tc := .int .i64
def codeOf (f : Func) : Code := f.body.getD .skip

/-- The way to the loop in block t. -/
def stk (t : Nat) : Nat → Code → List It → Option (List It)
  | b, .seq x y, k => match stk t b x (.code b y :: k) with
    | some r => some r
    | none => stk t b y k
  | b, .cond _ x y, k => match stk t b x k with
    | some r => some r
    | none => stk t b y k
  | _, .block i x, k => stk t i x (.blk i :: k)
  | b, .loop x, k => cond (Nat.beq b t) (some (.code b x :: .lp b x :: k)) (stk t b x (.lp b x :: k))
  | _, _, _ => none

noncomputable def FnI.hd (I : FnI) (t : Nat) (fr : Fr) : Option Fr := I.T ((stk t 0 I.code []).getD []) fr

noncomputable def FnI.gd (I : FnI) (t n : Nat) (l : List (Nat × FV)) (r : List (Nat × Reg)) : Option Fr := match (stk t 0 I.code []).getD [] with
  | .code b c :: k => I.GF b c k n l r
  | k => I.T k (mkF n l r)

theorem FnI.hd_eq (I : FnI) (t n : Nat) (l : List (Nat × FV)) (r : List (Nat × Reg)) : I.hd t (mkF n l r) = I.gd t n l r := by
  unfold FnI.hd FnI.gd
  split
  · rename_i b c k h
    rw [h, FnI.GF_eq]; exact I.T_eq b c k _
  · rfl

theorem hdEq {I : FnI} {t n : Nat} {l : List (Nat × FV)} {rg : List (Nat × Reg)} {r : Option Fr} (h : I.gd t n l rg = r) : I.hd t (mkF n l rg) = r := (I.hd_eq t n l rg).trans h

def num0 : Nat → List FV → List (Nat × FV)
  | _, [] => []
  | i, v :: l => (i, v) :: num0 (i + 1) l

noncomputable def FnI.run' (I : FnI) (pk : Fr) : Option Fr :=
  cond (pk.regs.all fun p => Nat.blt p.1 I.pre) (cond (Nat.ble pk.slots.length I.fn.ntmps) (I.GF 0 I.code [] I.fn.ntmps (num0 0 pk.slots) pk.regs) (I.T [.code 0 I.code] ⟨pk.slots ++ List.replicate (I.fn.ntmps - pk.slots.length) .undef, pk.regs⟩)) none

theorem mkS_nil : ∀ (n i : Nat), mkS i n [] = List.replicate n .undef
  | 0, i => rfl
  | n + 1, i => by simp only [mkS, List.replicate_succ]; rw [mkS_nil n]

theorem mkS_num0 : ∀ (l : List FV) (i n : Nat), l.length ≤ n → mkS i n (num0 i l) = l ++ List.replicate (n - l.length) .undef
  | [], i, n, h => by simp only [num0, mkS_nil]; rfl
  | v :: l, i, 0, h => by simp at h
  | v :: l, i, n + 1, h => by
    simp only [num0, mkS, List.length_cons]
    rw [show Nat.beq i i = true from by simp]
    simp only [cond_true, List.cons_append]
    rw [mkS_num0 l (i + 1) n (by simpa using h), show n + 1 - (l.length + 1) = n - l.length by omega]

theorem FnI.run_eq (I : FnI) (pk : Fr) : I.run pk = I.run' pk := by
  unfold FnI.run FnI.run'
  cases h : Nat.ble pk.slots.length I.fn.ntmps with
  | false => rfl
  | true =>
    have hle := Nat.le_of_ble_eq_true h
    simp only [cond_true, FnI.GF_eq]
    unfold mkF
    rw [mkS_num0 _ 0 _ hle, I.T_eq]

theorem enters_of {P : Program} {f : FuncId} {fn : Func} {c : Code} (hf : P.funcs[f]? = some fn) (hb : fn.body = some c) (hn : (fn.name == "runtime.NumGoroutine") = false) : Enters P f := by
  intro args w
  have : fn.name ≠ "runtime.NumGoroutine" := by simpa using hn
  simp [callFunc, hf, hb, this]

/-! ### contracts -/
@[reducible] def Tup : List Tc → Type
  | [] => Unit
  | t :: ts => t.den × Tup ts

def undats : (ts : List Tc) → Tup ts → List FV
  | [], _ => []
  | t :: ts, x => .dat t x.1 :: undats ts x.2

def dats : (ts : List Tc) → List FV → Option (Tup ts)
  | [], [] => some ()
  | t :: ts, .dat t' x :: l => if h : t' = t then (dats ts l).map fun y => (h ▸ x, y) else none
  | _, _ => none

theorem dats_some : ∀ (ts : List Tc) (l : List FV) (x : Tup ts), dats ts l = some x → l = undats ts x
  | [], [], x, h => rfl
  | [], _ :: _, x, h => by simp [dats] at h
  | t :: ts, [], x, h => by simp [dats] at h
  | t :: ts, v :: l, x, h => by
    cases v with
    | dat t' y =>
      simp only [dats] at h
      split at h
      · rename_i e
        subst e
        cases hd : dats ts l with
        | none => rw [hd] at h; cases h
        | some z =>
          rw [hd] at h
          simp only [Option.map_some, Option.some.injEq] at h
          subst h
          simp only [undats, dats_some ts l z hd]
      · cases h
    | _ => simp [dats] at h

/-! ### frames with holes (.undef) for closed data -/
mutual
def matchV : FV → FV → Option (List FV)
  | .undef, v => match v with
    | .dat t x => some [.dat t x]
    | _ => none
  | .ptr k o, v => match v with
    | .ptr k' o' => cond (Nat.beq k k' && Nat.beq o o') (some []) none
    | _ => none
  | .slc k, v => match v with
    | .slc k' => cond (Nat.beq k k') (some []) none
    | _ => none
  | .nil0, v => match v with
    | .nil0 => some []
    | _ => none
  | .nilp, v => match v with
    | .nilp => some []
    | _ => none
  | .nilm, v => match v with
    | .nilm => some []
    | _ => none
  | .nilf, v => match v with
    | .nilf => some []
    | _ => none
  | .agg l, v => match v with
    | .agg l' => matchL l l'
    | _ => none
  | .clos f l, v => match v with
    | .clos f' l' => cond (Nat.beq f f') (matchL l l') none
    | _ => none
  | _, _ => none
def matchL : List FV → List FV → Option (List FV)
  | [], l => match l with
    | [] => some []
    | _ => none
  | p :: ps, l => match l with
    | [] => none
    | v :: l => match matchV p v with
      | some a => match matchL ps l with
        | some b => some (a ++ b)
        | none => none
      | none => none
end

mutual
def fillV : FV → List FV → FV × List FV
  | .undef, hs => match hs with
    | h :: hs => (h, hs)
    | [] => (.undef, [])
  | .agg l, hs => (.agg (fillL l hs).1, (fillL l hs).2)
  | .clos f l, hs => (.clos f (fillL l hs).1, (fillL l hs).2)
  | v, hs => (v, hs)
def fillL : List FV → List FV → List FV × List FV
  | [], hs => ([], hs)
  | p :: ps, hs => ((fillV p hs).1 :: (fillL ps (fillV p hs).2).1, (fillL ps (fillV p hs).2).2)
end

def matchR : Reg → Reg → Option (List FV)
  | .box l, r => match r with
    | .box l' => matchL l l'
    | _ => none
  | .arr t _, r => match r with
    | .arr t' xs => if t = t' then some [.dat (.slice t') xs] else none
    | _ => none
  | .frz t _, r => match r with
    | .frz t' xs => if t = t' then some [.dat (.slice t') xs] else none
    | _ => none
  | _, _ => none

def fillR : Reg → List FV → Reg × List FV
  | .box l, hs => (.box (fillL l hs).1, (fillL l hs).2)
  | .arr t xs, hs => match hs with
    | .dat (.slice t') ys :: hs => (.arr t' ys, hs)
    | _ => (.arr t xs, hs)
  | .frz t xs, hs => match hs with
    | .dat (.slice t') ys :: hs => (.frz t' ys, hs)
    | _ => (.frz t xs, hs)
  | r, hs => (r, hs)

def matchRs : List (Nat × Reg) → List (Nat × Reg) → Option (List FV)
  | [], l => match l with
    | [] => some []
    | _ => none
  | (i, p) :: ps, l => match l with
    | [] => none
    | (j, r) :: l => cond (Nat.beq i j) (match matchR p r with
      | some a => match matchRs ps l with
        | some b => some (a ++ b)
        | none => none
      | none => none) none

def fillRs : List (Nat × Reg) → List FV → List (Nat × Reg)
  | [], _ => []
  | (i, p) :: ps, hs => (i, (fillR p hs).1) :: fillRs ps (fillR p hs).2

def matchF (p fr : Fr) : Option (List FV) := match matchL p.slots fr.slots with
  | some a => match matchRs p.regs fr.regs with
    | some b => some (a ++ b)
    | none => none
  | none => none

def fillF (p : Fr) (hs : List FV) : Fr := ⟨(fillL p.slots hs).1, fillRs p.regs (fillL p.slots hs).2⟩

theorem beq_ok {a b : Nat} (h : Nat.beq a b = true) : a = b := Nat.eq_of_beq_eq_true h

mutual
theorem fillV_match : ∀ (p v : FV) (hs rest : List FV), matchV p v = some hs → fillV p (hs ++ rest) = (v, rest)
  | .undef, v, hs, rest, h => by
    cases v <;> simp only [matchV] at h <;> first | (cases h; done) | skip
    cases h; rfl
  | .ptr k o, v, hs, rest, h => by
    cases v <;> simp only [matchV] at h <;> first | (cases h; done) | skip
    rename_i k' o'
    cases hb : (Nat.beq k k' && Nat.beq o o') with
    | false => rw [hb] at h; cases h
    | true =>
      rw [hb] at h
      simp only [Bool.and_eq_true] at hb
      rw [beq_ok hb.1, beq_ok hb.2]
      cases h; rfl
  | .slc k, v, hs, rest, h => by
    cases v <;> simp only [matchV] at h <;> first | (cases h; done) | skip
    rename_i k'
    cases hb : Nat.beq k k' with
    | false => rw [hb] at h; cases h
    | true => rw [hb] at h; rw [beq_ok hb]; cases h; rfl
  | .nil0, v, hs, rest, h => by
    cases v <;> simp only [matchV] at h <;> first | (cases h; done) | skip
    cases h; rfl
  | .nilp, v, hs, rest, h => by
    cases v <;> simp only [matchV] at h <;> first | (cases h; done) | skip
    cases h; rfl
  | .nilm, v, hs, rest, h => by
    cases v <;> simp only [matchV] at h <;> first | (cases h; done) | skip
    cases h; rfl
  | .nilf, v, hs, rest, h => by
    cases v <;> simp only [matchV] at h <;> first | (cases h; done) | skip
    cases h; rfl
  | .agg l, v, hs, rest, h => by
    cases v <;> simp only [matchV] at h <;> first | (cases h; done) | skip
    simp only [fillV, fillL_match l _ hs rest h]
  | .clos f l, v, hs, rest, h => by
    cases v <;> simp only [matchV] at h <;> first | (cases h; done) | skip
    rename_i f' l'
    cases hb : Nat.beq f f' with
    | false => rw [hb] at h; cases h
    | true =>
      rw [hb] at h
      rw [beq_ok hb]
      simp only [fillV, fillL_match l _ hs rest h]
  | .skp, v, hs, rest, h => by simp [matchV] at h
  | .ub, v, hs, rest, h => by simp [matchV] at h
  | .dat t x, v, hs, rest, h => by simp [matchV] at h
  | .ep k i o, v, hs, rest, h => by simp [matchV] at h
  | .fp t x, v, hs, rest, h => by simp [matchV] at h
  | .mp k, v, hs, rest, h => by simp [matchV] at h
  | .tup l, v, hs, rest, h => by simp [matchV] at h
theorem fillL_match : ∀ (p l : List FV) (hs rest : List FV), matchL p l = some hs → fillL p (hs ++ rest) = (l, rest)
  | [], l, hs, rest, h => by
    cases l <;> simp only [matchL] at h <;> first | (cases h; done) | skip
    cases h; rfl
  | p :: ps, l, hs, rest, h => by
    cases l with
    | nil => simp [matchL] at h
    | cons v l =>
      simp only [matchL] at h
      cases hv : matchV p v with
      | none => rw [hv] at h; cases h
      | some a =>
        rw [hv] at h
        cases hl : matchL ps l with
        | none => rw [hl] at h; cases h
        | some b =>
          rw [hl] at h
          cases h
          simp only [fillL, List.append_assoc, fillV_match p v a (b ++ rest) hv, fillL_match ps l b rest hl]
end

theorem fillR_match (p r : Reg) (hs rest : List FV) (h : matchR p r = some hs) : fillR p (hs ++ rest) = (r, rest) := by
  cases p with
  | box l =>
    cases r <;> simp only [matchR] at h <;> first | (cases h; done) | skip
    simp only [fillR, fillL_match l _ hs rest h]
  | arr t xs =>
    cases r <;> simp only [matchR] at h <;> first | (cases h; done) | skip
    split at h
    · cases h; rfl
    · cases h
  | frz t xs =>
    cases r <;> simp only [matchR] at h <;> first | (cases h; done) | skip
    split at h
    · cases h; rfl
    · cases h
  | abs => simp [matchR] at h
  | dead => simp [matchR] at h

theorem fillRs_match : ∀ (p l : List (Nat × Reg)) (hs rest : List FV), matchRs p l = some hs → fillRs p (hs ++ rest) = l
  | [], l, hs, rest, h => by
    cases l <;> simp only [matchRs] at h <;> first | (cases h; done) | rfl
  | (i, p) :: ps, l, hs, rest, h => by
    cases l with
    | nil => simp [matchRs] at h
    | cons q l =>
      obtain ⟨j, r⟩ := q
      simp only [matchRs] at h
      cases hb : Nat.beq i j with
      | false => rw [hb] at h; cases h
      | true =>
        rw [hb] at h
        simp only [cond_true] at h
        cases hv : matchR p r with
        | none => rw [hv] at h; cases h
        | some a =>
          rw [hv] at h
          cases hl : matchRs ps l with
          | none => rw [hl] at h; cases h
          | some b =>
            rw [hl] at h
            cases h
            rw [beq_ok hb]
            simp only [fillRs, List.append_assoc, fillR_match p r a (b ++ rest) hv, fillRs_match ps l b rest hl]

theorem fillF_match {p fr : Fr} {hs : List FV} (h : matchF p fr = some hs) : fr = fillF p hs := by
  unfold matchF at h
  cases h1 : matchL p.slots fr.slots with
  | none => rw [h1] at h; cases h
  | some a =>
    rw [h1] at h
    cases h2 : matchRs p.regs fr.regs with
    | none => rw [h2] at h; cases h
    | some b =>
      rw [h2] at h
      cases h
      unfold fillF
      rw [fillL_match _ _ a b h1]
      have := fillRs_match _ _ b [] h2
      rw [List.append_nil] at this
      simp only [this]

/-- A contract: on frames of a form. -/
def genS (md : List Bool) (ret : Bool) (pat : Fr) (ts : List Tc) (ok : Tup ts → Bool) (out : Tup ts → Fr) : Spec where
  md := md
  ret := ret
  ok := fun pk => match matchF pat pk with
    | some hs => match dats ts hs with
      | some x => ok x
      | none => false
    | none => false
  fn := fun pk => match matchF pat pk with
    | some hs => match dats ts hs with
      | some x => some (out x)
      | none => none
    | none => none

theorem gen_of {P : Program} {G : (Nat → Prop) → Array Obj → Prop} {f : FuncId} {md : List Bool} {ret : Bool} {pat : Fr} {ts : List Tc} {ok : Tup ts → Bool} {out : Tup ts → Fr} (R : Fr → Fr → Prop)
    (h : ∀ x, ok x = true → R (fillF pat (undats ts x)) (out x)) : ∀ pk o, (genS md ret pat ts ok out).ok pk = true → (genS md ret pat ts ok out).fn pk = some o → R pk o := by
  intro pk o hok hout
  simp only [genS] at hok hout
  cases hm : matchF pat pk with
  | none => rw [hm] at hok; cases hok
  | some hs =>
    rw [hm] at hok hout
    simp only at hok hout
    cases hd : dats ts hs with
    | none => rw [hd] at hok; cases hok
    | some x =>
      rw [hd] at hok hout
      simp only [Option.some.injEq] at hok hout
      have e1 := fillF_match hm
      have e2 := dats_some ts hs x hd
      rw [e1, e2, ← hout]
      exact h x hok

theorem gen_sound {P : Program} (I : FnI) (hE : EnvOk P I.E) (hm : P.follows .mixedOrders = true) {f : FuncId} (hf : P.funcs[f]? = some I.fn) (hbody : I.fn.body = some I.code)
    (hn : (I.fn.name == "runtime.NumGoroutine") = false) {md : List Bool} {ret : Bool} {pat : Fr} {ts : List Tc} {ok : Tup ts → Bool} {out : Tup ts → Fr}
    (h : ∀ x, ok x = true → I.run (fillF pat (undats ts x)) = some (out x)) : Sound P I.E.gl f (genS md ret pat ts ok out) ∧ Enters P f :=
  ⟨I.sound hE hm hf hbody (gen_of (P := P) (G := I.E.gl) (f := f) (fun pk o => I.run pk = some o) h), enters_of hf hbody hn⟩

/-- Two contracts of one function. -/
def orS (s1 s2 : Spec) : Spec := ⟨s1.md, s1.ret, fun pk => s1.ok pk || s2.ok pk, fun pk => cond (s1.ok pk) (s1.fn pk) (s2.fn pk)⟩

theorem or_sound {P : Program} {G : (Nat → Prop) → Array Obj → Prop} {f : FuncId} {s1 s2 : Spec} (h1 : Sound P G f s1) (h2 : Sound P G f s2) : Sound P G f (orS s1 s2) := by
  intro pk out hok hout
  simp only [orS] at hok hout
  cases hb : s1.ok pk with
  | true => rw [hb] at hout; exact h1 pk out hb hout
  | false =>
    rw [hb] at hok hout
    exact h2 pk out (by simpa using hok) hout

theorem omap_cond {α β : Type} (q : Bool) (a b : Option α) (f : α → β) : (cond q a b).map f = cond q (a.map f) (b.map f) := by cases q <;> rfl
theorem fst_cond {α β : Type} (q : Bool) (a b : α × β) : (cond q a b).1 = cond q a.1 b.1 := by cases q <;> rfl
theorem snd_cond {α β : Type} (q : Bool) (a b : α × β) : (cond q a b).2 = cond q a.2 b.2 := by cases q <;> rfl

/-! ### what is known of a program -/
def ttOf : List (Nat × TI) → Nat → Option TI
  | [], _ => none
  | (i, t) :: l, k => cond (Nat.beq i k) (some t) (ttOf l k)

theorem ttOf_mem : ∀ (l : List (Nat × TI)) (k : Nat) (t : TI), ttOf l k = some t → (k, t) ∈ l
  | [], k, t, h => by cases h
  | (i, x) :: l, k, t, h => by
    simp only [ttOf] at h
    cases hb : Nat.beq i k with
    | true =>
      rw [hb] at h
      have := Nat.eq_of_beq_eq_true hb
      cases h; subst this; simp
    | false => rw [hb] at h; exact List.mem_cons_of_mem _ (ttOf_mem l k t h)

def Env.add (E : Env) (f : FuncId) (s : Spec) : Env := ⟨E.tt, fun g => cond (Nat.beq g f) (some s) (E.fs g), E.gl⟩

theorem env_nil {P : Program} {l : List (Nat × TI)} (h : (l.all fun p => okTI P p.1 p.2) = true) : EnvOk P ⟨ttOf l, fun _ => none, fun _ _ => True⟩ :=
  ⟨fun t ti ht => okTI_spec (List.all_eq_true.1 h _ (ttOf_mem l t ti ht)), (fun f s hs => by cases hs), fun _ _ _ _ _ _ => trivial⟩

theorem env_add {P : Program} {E : Env} (hE : EnvOk P E) {f : FuncId} {s : Spec} (h : Sound P E.gl f s ∧ Enters P f) : EnvOk P (E.add f s) :=
  ⟨hE.tts, fun g t ht => by
    simp only [Env.add] at ht
    cases hb : Nat.beq g f with
    | true =>
      rw [hb] at ht
      have := Nat.eq_of_beq_eq_true hb
      cases ht; subst this; exact h
    | false => rw [hb] at ht; exact hE.fss g t ht, hE.gm⟩

theorem env_or {P : Program} {E : Env} (hE : EnvOk P E) {f : FuncId} {s1 s2 : Spec} (h1 : E.fs f = some s1) (h : Sound P E.gl f s2 ∧ Enters P f) : EnvOk P (E.add f (orS s1 s2)) :=
  env_add hE ⟨or_sound (hE.fss f s1 h1).1 h.1, h.2⟩

end Go.Ev

set_option linter.unusedSimpArgs false
set_option linter.unusedVariables false
namespace Go.Ev
open Go

/-! ### numbers of loops -/
theorem dlt {i n : Nat} (h : i < n) : decide ((i : Int) < (n : Int)) = true := by simp; omega
theorem dlt_not {i n : Nat} (h : n ≤ i) : decide ((i : Int) < (n : Int)) = false := by simp; omega
theorem dle0 (i : Nat) : decide ((0 : Int) ≤ (i : Int)) = true := by simp
theorem wrap_in {x : Int} (h1 : -9223372036854775808 ≤ x) (h2 : x ≤ 9223372036854775807) : wrap .i64 x = x := by
  unfold wrap; rw [IntKind.wrap_i64]; omega
theorem wsucc {i : Nat} (h : i ≤ 4611686018427387904) : wrap .i64 ((i : Int) + 1) = ((i + 1 : Nat) : Int) := by
  rw [wrap_in (by omega) (by omega)]; simp
theorem wrap_range (x : Int) : -9223372036854775808 ≤ wrap .i64 x ∧ wrap .i64 x ≤ 9223372036854775807 := by
  unfold wrap; rw [IntKind.wrap_i64]; omega
theorem getN {α : Type} (xs : List α) (i : Nat) (d : α) (h : i < xs.length) : List.getD xs (Int.toNat (i : Int)) d = xs[i] := by
  rw [Int.toNat_natCast, List.getD_eq_getElem?_getD, List.getElem?_eq_getElem h]; rfl
theorem getI {α : Type} (xs : List α) (i : Int) (d : α) (h0 : 0 ≤ i) (h : i.toNat < xs.length) : List.getD xs (Int.toNat i) d = xs[i.toNat] := by
  rw [List.getD_eq_getElem?_getD, List.getElem?_eq_getElem h]; rfl
theorem dcons {α : Type} {xs : List α} {i : Nat} (h : i < xs.length) : xs.drop i = xs[i] :: xs.drop (i + 1) := List.drop_eq_getElem_cons h
theorem dnil {α : Type} {xs : List α} {i : Nat} (h : xs.length ≤ i) : xs.drop i = [] := List.drop_eq_nil_of_le h
theorem condT {α : Type} {q : Bool} {a b : α} (h : q = true) : cond q a b = a := by rw [h]; rfl
theorem condF {α : Type} {q : Bool} {a b : α} (h : q = false) : cond q a b = b := by rw [h]; rfl
/-- A condition of which both ways lead to one result. -/
theorem condB {α : Type} {q : Bool} {a b c : α} (h1 : q = true → a = c) (h2 : q = false → b = c) : cond q a b = c := by
  cases q
  · exact h2 rfl
  · exact h1 rfl

/-! ### that a run ends -/
def Ends (Q : Fr → Prop) (o : Option Fr) : Prop := ∃ f, o = some f ∧ Q f
theorem ends_some {Q : Fr → Prop} {f : Fr} (h : Q f) : Ends Q (some f) := ⟨f, rfl, h⟩
theorem ends_cond {Q : Fr → Prop} {c : Bool} {a b : Option Fr} (h1 : c = true → Ends Q a) (h2 : c = false → Ends Q b) : Ends Q (cond c a b) := by
  cases c
  · exact h2 rfl
  · exact h1 rfl
theorem ends_if {Q : Fr → Prop} {c : Bool} {a : Option Fr} (h : c = true) (h2 : Ends Q a) : Ends Q (cond c a none) := by rw [h]; exact h2
theorem ends_mono {Q R : Fr → Prop} {o : Option Fr} (h : Ends Q o) (hm : ∀ f, Q f → R f) : Ends R o := by
  obtain ⟨f, h1, h2⟩ := h
  exact ⟨f, h1, hm f h2⟩
theorem dT {p : Prop} [Decidable p] (h : p) : decide p = true := by simp [h]
theorem dF {p : Prop} [Decidable p] (h : ¬ p) : decide p = false := by simp [h]

end Go.Ev

set_option linter.unusedVariables false
set_option linter.unusedSimpArgs false
set_option maxRecDepth 100000
namespace Go.Ev.H
open Go Go.Ev

abbrev tChord : Tc := (.st (.pair tI (.pair tI tI)))
abbrev Chord : Type := Int × (Int × Int)
abbrev tRng : Tc := (.st (.pair tI tI))
abbrev Rng : Type := Int × Int
/-! ### the stream of numbers, and small things -/
def outside (n lo hi : Int) : Bool := decide (n < lo) || decide (n > hi)
def inR (n lo hi : Int) : Bool := decide (lo ≤ n) && decide (n ≤ hi)
def below (x n : Int) : Int := cond (decide (n < 1)) 0 (cond (decide (x.tmod n < 0)) (wrap .i64 (x.tmod n + n)) (x.tmod n))
def idxGo (x : Int) : List Int → Nat → Int
  | [], _ => -1
  | y :: l, i => cond (x == y) (i : Int) (idxGo x l (i + 1))
def indexI (l : List Int) (x : Int) : Int := idxGo x l 0
def containsI (l : List Int) (x : Int) : Bool := decide (indexI l x ≥ 0)
def mx (a b : Int) : Int := if a < b then b else a
def equalI (a b : List Int) : Bool := a == b
def atOk (k at_ : Int) : Bool := decide (0 ≤ at_) && decide (at_ + k ≤ 1099511627776)
def nextAt (at_ : Int) : Int := wrap .i64 (at_ + 1)
def rawNext (L : List Int) (at_ : Int) : Int := cond ((L.length : Int) == 0) (wrap .i64 (wrap .i64 (at_ + 1) * 7919))
  (wrap .i64 (below (L.getD (Int.toNat (Int.tmod at_ L.length)) (Tc.dflt tI)) 1073741824 + wrap .i64 (wrap .i64 (Int.tdiv at_ L.length) * wrap .i64 (7919 + Int.tmod at_ L.length))))
def next (L : List Int) (at_ n : Int) : Int := below (rawNext L at_) n
def pick (L : List Int) (at_ : Int) (l : List Int) : Int := l.getD (Int.toNat (next L at_ l.length)) (Tc.dflt tI)
def rangeAt (at_ lo hi : Int) : Int := cond (decide (hi < lo)) at_ (nextAt at_)
def rangeS (L : List Int) (at_ lo hi : Int) : Int := cond (decide (hi < lo)) lo (wrap .i64 (lo + next L at_ (wrap .i64 (wrap .i64 (hi - lo) + 1))))
def oddL (lo hi : Int) : List Int := [wrap .i64 (lo - 1), wrap .i64 (hi + 1), lo, hi, -1099511627776, 1099511627776]
def oddS (L : List Int) (at_ lo hi : Int) : Int × Int := cond (next L at_ 12 == 0) (nextAt (nextAt at_), pick L (nextAt at_) (oddL lo hi)) (rangeAt (nextAt at_) lo hi, rangeS L (nextAt at_) lo hi)
def some_ (L : List Int) (at_ : Int) (l : List Bytes) : Bytes := l.getD (Int.toNat (next L at_ l.length)) (Tc.dflt .str)
def idxBy {α : Type} (p : α → Bool) : List α → Nat → Int
  | [], _ => -1
  | x :: l, i => cond (p x) (i : Int) (idxBy p l (i + 1))
/-! ### chords: tones, classes -/
def kindT (k : Int) : List Int := ([[], [0, 4, 7], [0, 3, 7], [0, 3, 6], [0, 4, 8], [0, 4, 7, 10], [0, 4, 7, 11], [0, 3, 7, 10]] : List (List Int)).getD k.toNat []
def rightC (c : Chord) : Bool := decide (0 ≤ c.1) && decide (c.1 ≤ 11) && decide (1 ≤ c.2.1) && decide (c.2.1 ≤ 7) && decide (0 ≤ c.2.2) && decide (c.2.2 < ((kindT c.2.1).length : Int))
def tonesR (c : Chord) : List Int := (List.range (kindT c.2.1).length).map fun i => (c.1 + (kindT c.2.1).getD ((i + c.2.2.toNat) % (kindT c.2.1).length) 0) % 12
def swapAt (l : List Int) (j : Nat) : List Int := (l.set (j + 1) (l.getD j 0)).set j (l.getD (j + 1) 0)
def sinkGo : Nat → List Int → List Int
  | 0, l => l
  | j + 1, l => cond (decide (l.getD (j + 1) 0 < l.getD j 0)) (sinkGo j (swapAt l j)) l
def sortGo : Nat → Nat → List Int → List Int
  | 0, _, l => l
  | m + 1, i, l => sortGo m (i + 1) (sinkGo i l)
def sortI (l : List Int) : List Int := sortGo (l.length - 1) 1 l
def ddG : Int → List Int → List Int
  | _, [] => []
  | a, b :: l => cond (b == a) (ddG b l) (b :: ddG b l)
def compI : List Int → List Int
  | [] => []
  | a :: l => a :: ddG a l
def classI (l : List Int) : List Int := compI (sortI (l.map fun n => Int.tmod n 12))
def minI : List Int → Int
  | [] => 0
  | a :: l => l.foldl (fun m x => if x < m then x else m) a
def chordF (c : Chord) : Int := cond (outside c.1 0 11) 1 (cond (outside c.2.1 1 7) 4 (cond (outside c.2.2 0 ((kindT c.2.1).length - 1)) 1 0))
def rowGo : List Chord → Int
  | [] => 0
  | c :: l => cond (!(chordF c == 0)) (chordF c) (rowGo l)
def rowF (l : List Chord) (most : Int) : Int := cond (decide ((l.length : Int) > most)) 2 (rowGo l)
def firstE : List Int → Int
  | [] => 0
  | e :: l => cond (!(e == 0)) e (firstE l)
def notesF (l : List Int) (most : Int) : Int := cond ((l.length : Int) == 0) 8 (cond (decide ((l.length : Int) > most)) 2 (cond (l.any fun n => outside n 0 127) 1 0))
def allC : List Chord := (List.range 12).flatMap fun (r : Nat) => (List.range 7).flatMap fun (k : Nat) => (List.range (kindT (k + 1 : Nat)).length).map fun (t : Nat) => ((r : Int), ((k + 1 : Nat) : Int), (t : Int))
def ofOne (all : List Int) (low : Int) (r k : Nat) : List Chord :=
  cond (classI (tonesR ((r : Int), ((k + 1 : Nat) : Int), 0)) == all) [((r : Int), ((k + 1 : Nat) : Int), indexI (tonesR ((r : Int), ((k + 1 : Nat) : Int), 0)) low)] []
def ofL (all : List Int) (low : Int) : List Chord := (List.range 12).flatMap fun (r : Nat) => (List.range 7).flatMap fun (k : Nat) => ofOne all low r k
def ofF (l : List Int) : List Chord × Int := cond (!(notesF l 12 == 0)) ([], notesF l 12) (ofL (classI l) ((minI l).tmod 12), 0)
def sharedGo (m : List Int) : List Int → Int → Int
  | [], n => n
  | t :: l, n => sharedGo m l (cond (containsI m t) (n + 1) n)
def sharedN (a b : Chord) : Int := sharedGo (tonesR b) (tonesR a) 0
def sharedF (a b : Chord) : Int × Int := cond (!(rowGo [a, b] == 0)) (0, rowGo [a, b]) (sharedN a b, 0)
def majorL : List Int := [0, 2, 4, 5, 7, 9, 11]
def keyIn (l : List Chord) (k : Nat) : Bool := !(l.any fun c => (tonesR c).any fun t => !containsI majorL (((t - (k : Int)) + 12).tmod 12))
def keysL (l : List Chord) : List Int := ((List.range 12).filter fun k => keyIn l k).map fun (k : Nat) => (k : Int)
def keysF (l : List Chord) : List Int × Int := cond (!(rowF l 144 == 0)) ([], rowF l 144) (keysL l, 0)
def itoaB (n : Int) : Bytes := Lib.decDigits n.toNat

def t121 (a0 : Int) : Bool := (outside a0 (0 : Int) (127 : Int))
def t121_0 (a0 : Int) : Bool := (t121 a0)
def t76 (a0 : (List Int)) : Option (Bool) := (cond (decide (List.length a0 ≤ 1000)) (some (decide ((idxBy (fun o => t121_0 o) a0 0) ≥ (0 : Int)))) none)
def t76_ok (a0 : (List Int)) : Bool := (t76 a0).isSome
def t76_0 (a0 : (List Int)) : Bool := ((t76 a0).getD ((Tc.dflt .bool)))
def t158 (a0 : Int) : Option (Int) := (cond (decide (a0 ≥ (65536 : Int))) (cond (decide ((16 : Int) < 0)) none (cond (decide ((Int.fdiv a0 (2 ^ (min (Int.toNat (16 : Int)) (IntKind.bits .u32)))) ≥ (256 : Int))) (cond (decide ((8 : Int) < 0)) none (cond (decide ((0 : Int) ≤ (wrap .u8 (Int.fdiv (Int.fdiv a0 (2 ^ (min (Int.toNat (16 : Int)) (IntKind.bits .u32)))) (2 ^ (min (Int.toNat (8 : Int)) (IntKind.bits .u32))))))) (cond (decide ((wrap .u8 (Int.fdiv (Int.fdiv a0 (2 ^ (min (Int.toNat (16 : Int)) (IntKind.bits .u32)))) (2 ^ (min (Int.toNat (8 : Int)) (IntKind.bits .u32))))) < ((List.length [0, 1, 2, 2, 3, 3, 3, 3, 4, 4, 4, 4, 4, 4, 4, 4, 5, 5, 5, 5, 5, 5, 5, 5, 5, 5, 5, 5, 5, 5, 5, 5, 6, 6, 6, 6, 6, 6, 6, 6, 6, 6, 6, 6, 6, 6, 6, 6, 6, 6, 6, 6, 6, 6, 6, 6, 6, 6, 6, 6, 6, 6, 6, 6, 7, 7, 7, 7, 7, 7, 7, 7, 7, 7, 7, 7, 7, 7, 7, 7, 7, 7, 7, 7, 7, 7, 7, 7, 7, 7, 7, 7, 7, 7, 7, 7, 7, 7, 7, 7, 7, 7, 7, 7, 7, 7, 7, 7, 7, 7, 7, 7, 7, 7, 7, 7, 7, 7, 7, 7, 7, 7, 7, 7, 7, 7, 7, 7, 8, 8, 8, 8, 8, 8, 8, 8, 8, 8, 8, 8, 8, 8, 8, 8, 8, 8, 8, 8, 8, 8, 8, 8, 8, 8, 8, 8, 8, 8, 8, 8, 8, 8, 8, 8, 8, 8, 8, 8, 8, 8, 8, 8, 8, 8, 8, 8, 8, 8, 8, 8, 8, 8, 8, 8, 8, 8, 8, 8, 8, 8, 8, 8, 8, 8, 8, 8, 8, 8, 8, 8, 8, 8, 8, 8, 8, 8, 8, 8, 8, 8, 8, 8, 8, 8, 8, 8, 8, 8, 8, 8, 8, 8, 8, 8, 8, 8, 8, 8, 8, 8, 8, 8, 8, 8, 8, 8, 8, 8, 8, 8, 8, 8, 8, 8, 8, 8, 8, 8, 8, 8, 8, 8, 8, 8, 8, 8] : Nat) : Int))) (some (wrap .i64 ((wrap .i64 ((16 : Int) + (8 : Int))) + (wrap .i64 ((UInt8.toNat (List.getD [0, 1, 2, 2, 3, 3, 3, 3, 4, 4, 4, 4, 4, 4, 4, 4, 5, 5, 5, 5, 5, 5, 5, 5, 5, 5, 5, 5, 5, 5, 5, 5, 6, 6, 6, 6, 6, 6, 6, 6, 6, 6, 6, 6, 6, 6, 6, 6, 6, 6, 6, 6, 6, 6, 6, 6, 6, 6, 6, 6, 6, 6, 6, 6, 7, 7, 7, 7, 7, 7, 7, 7, 7, 7, 7, 7, 7, 7, 7, 7, 7, 7, 7, 7, 7, 7, 7, 7, 7, 7, 7, 7, 7, 7, 7, 7, 7, 7, 7, 7, 7, 7, 7, 7, 7, 7, 7, 7, 7, 7, 7, 7, 7, 7, 7, 7, 7, 7, 7, 7, 7, 7, 7, 7, 7, 7, 7, 7, 8, 8, 8, 8, 8, 8, 8, 8, 8, 8, 8, 8, 8, 8, 8, 8, 8, 8, 8, 8, 8, 8, 8, 8, 8, 8, 8, 8, 8, 8, 8, 8, 8, 8, 8, 8, 8, 8, 8, 8, 8, 8, 8, 8, 8, 8, 8, 8, 8, 8, 8, 8, 8, 8, 8, 8, 8, 8, 8, 8, 8, 8, 8, 8, 8, 8, 8, 8, 8, 8, 8, 8, 8, 8, 8, 8, 8, 8, 8, 8, 8, 8, 8, 8, 8, 8, 8, 8, 8, 8, 8, 8, 8, 8, 8, 8, 8, 8, 8, 8, 8, 8, 8, 8, 8, 8, 8, 8, 8, 8, 8, 8, 8, 8, 8, 8, 8, 8, 8, 8, 8, 8, 8, 8, 8, 8, 8, 8] (Int.toNat (wrap .u8 (Int.fdiv (Int.fdiv a0 (2 ^ (min (Int.toNat (16 : Int)) (IntKind.bits .u32)))) (2 ^ (min (Int.toNat (8 : Int)) (IntKind.bits .u32)))))) 0) : Nat) : Int))))) none) none)) (cond (decide ((0 : Int) ≤ (wrap .u8 (Int.fdiv a0 (2 ^ (min (Int.toNat (16 : Int)) (IntKind.bits .u32))))))) (cond (decide ((wrap .u8 (Int.fdiv a0 (2 ^ (min (Int.toNat (16 : Int)) (IntKind.bits .u32))))) < ((List.length [0, 1, 2, 2, 3, 3, 3, 3, 4, 4, 4, 4, 4, 4, 4, 4, 5, 5, 5, 5, 5, 5, 5, 5, 5, 5, 5, 5, 5, 5, 5, 5, 6, 6, 6, 6, 6, 6, 6, 6, 6, 6, 6, 6, 6, 6, 6, 6, 6, 6, 6, 6, 6, 6, 6, 6, 6, 6, 6, 6, 6, 6, 6, 6, 7, 7, 7, 7, 7, 7, 7, 7, 7, 7, 7, 7, 7, 7, 7, 7, 7, 7, 7, 7, 7, 7, 7, 7, 7, 7, 7, 7, 7, 7, 7, 7, 7, 7, 7, 7, 7, 7, 7, 7, 7, 7, 7, 7, 7, 7, 7, 7, 7, 7, 7, 7, 7, 7, 7, 7, 7, 7, 7, 7, 7, 7, 7, 7, 8, 8, 8, 8, 8, 8, 8, 8, 8, 8, 8, 8, 8, 8, 8, 8, 8, 8, 8, 8, 8, 8, 8, 8, 8, 8, 8, 8, 8, 8, 8, 8, 8, 8, 8, 8, 8, 8, 8, 8, 8, 8, 8, 8, 8, 8, 8, 8, 8, 8, 8, 8, 8, 8, 8, 8, 8, 8, 8, 8, 8, 8, 8, 8, 8, 8, 8, 8, 8, 8, 8, 8, 8, 8, 8, 8, 8, 8, 8, 8, 8, 8, 8, 8, 8, 8, 8, 8, 8, 8, 8, 8, 8, 8, 8, 8, 8, 8, 8, 8, 8, 8, 8, 8, 8, 8, 8, 8, 8, 8, 8, 8, 8, 8, 8, 8, 8, 8, 8, 8, 8, 8, 8, 8, 8, 8, 8, 8] : Nat) : Int))) (some (wrap .i64 ((16 : Int) + (wrap .i64 ((UInt8.toNat (List.getD [0, 1, 2, 2, 3, 3, 3, 3, 4, 4, 4, 4, 4, 4, 4, 4, 5, 5, 5, 5, 5, 5, 5, 5, 5, 5, 5, 5, 5, 5, 5, 5, 6, 6, 6, 6, 6, 6, 6, 6, 6, 6, 6, 6, 6, 6, 6, 6, 6, 6, 6, 6, 6, 6, 6, 6, 6, 6, 6, 6, 6, 6, 6, 6, 7, 7, 7, 7, 7, 7, 7, 7, 7, 7, 7, 7, 7, 7, 7, 7, 7, 7, 7, 7, 7, 7, 7, 7, 7, 7, 7, 7, 7, 7, 7, 7, 7, 7, 7, 7, 7, 7, 7, 7, 7, 7, 7, 7, 7, 7, 7, 7, 7, 7, 7, 7, 7, 7, 7, 7, 7, 7, 7, 7, 7, 7, 7, 7, 8, 8, 8, 8, 8, 8, 8, 8, 8, 8, 8, 8, 8, 8, 8, 8, 8, 8, 8, 8, 8, 8, 8, 8, 8, 8, 8, 8, 8, 8, 8, 8, 8, 8, 8, 8, 8, 8, 8, 8, 8, 8, 8, 8, 8, 8, 8, 8, 8, 8, 8, 8, 8, 8, 8, 8, 8, 8, 8, 8, 8, 8, 8, 8, 8, 8, 8, 8, 8, 8, 8, 8, 8, 8, 8, 8, 8, 8, 8, 8, 8, 8, 8, 8, 8, 8, 8, 8, 8, 8, 8, 8, 8, 8, 8, 8, 8, 8, 8, 8, 8, 8, 8, 8, 8, 8, 8, 8, 8, 8, 8, 8, 8, 8, 8, 8, 8, 8, 8, 8, 8, 8, 8, 8, 8, 8, 8, 8] (Int.toNat (wrap .u8 (Int.fdiv a0 (2 ^ (min (Int.toNat (16 : Int)) (IntKind.bits .u32)))))) 0) : Nat) : Int))))) none) none))) (cond (decide (a0 ≥ (256 : Int))) (cond (decide ((8 : Int) < 0)) none (cond (decide ((0 : Int) ≤ (wrap .u8 (Int.fdiv a0 (2 ^ (min (Int.toNat (8 : Int)) (IntKind.bits .u32))))))) (cond (decide ((wrap .u8 (Int.fdiv a0 (2 ^ (min (Int.toNat (8 : Int)) (IntKind.bits .u32))))) < ((List.length [0, 1, 2, 2, 3, 3, 3, 3, 4, 4, 4, 4, 4, 4, 4, 4, 5, 5, 5, 5, 5, 5, 5, 5, 5, 5, 5, 5, 5, 5, 5, 5, 6, 6, 6, 6, 6, 6, 6, 6, 6, 6, 6, 6, 6, 6, 6, 6, 6, 6, 6, 6, 6, 6, 6, 6, 6, 6, 6, 6, 6, 6, 6, 6, 7, 7, 7, 7, 7, 7, 7, 7, 7, 7, 7, 7, 7, 7, 7, 7, 7, 7, 7, 7, 7, 7, 7, 7, 7, 7, 7, 7, 7, 7, 7, 7, 7, 7, 7, 7, 7, 7, 7, 7, 7, 7, 7, 7, 7, 7, 7, 7, 7, 7, 7, 7, 7, 7, 7, 7, 7, 7, 7, 7, 7, 7, 7, 7, 8, 8, 8, 8, 8, 8, 8, 8, 8, 8, 8, 8, 8, 8, 8, 8, 8, 8, 8, 8, 8, 8, 8, 8, 8, 8, 8, 8, 8, 8, 8, 8, 8, 8, 8, 8, 8, 8, 8, 8, 8, 8, 8, 8, 8, 8, 8, 8, 8, 8, 8, 8, 8, 8, 8, 8, 8, 8, 8, 8, 8, 8, 8, 8, 8, 8, 8, 8, 8, 8, 8, 8, 8, 8, 8, 8, 8, 8, 8, 8, 8, 8, 8, 8, 8, 8, 8, 8, 8, 8, 8, 8, 8, 8, 8, 8, 8, 8, 8, 8, 8, 8, 8, 8, 8, 8, 8, 8, 8, 8, 8, 8, 8, 8, 8, 8, 8, 8, 8, 8, 8, 8, 8, 8, 8, 8, 8, 8] : Nat) : Int))) (some (wrap .i64 ((wrap .i64 ((0 : Int) + (8 : Int))) + (wrap .i64 ((UInt8.toNat (List.getD [0, 1, 2, 2, 3, 3, 3, 3, 4, 4, 4, 4, 4, 4, 4, 4, 5, 5, 5, 5, 5, 5, 5, 5, 5, 5, 5, 5, 5, 5, 5, 5, 6, 6, 6, 6, 6, 6, 6, 6, 6, 6, 6, 6, 6, 6, 6, 6, 6, 6, 6, 6, 6, 6, 6, 6, 6, 6, 6, 6, 6, 6, 6, 6, 7, 7, 7, 7, 7, 7, 7, 7, 7, 7, 7, 7, 7, 7, 7, 7, 7, 7, 7, 7, 7, 7, 7, 7, 7, 7, 7, 7, 7, 7, 7, 7, 7, 7, 7, 7, 7, 7, 7, 7, 7, 7, 7, 7, 7, 7, 7, 7, 7, 7, 7, 7, 7, 7, 7, 7, 7, 7, 7, 7, 7, 7, 7, 7, 8, 8, 8, 8, 8, 8, 8, 8, 8, 8, 8, 8, 8, 8, 8, 8, 8, 8, 8, 8, 8, 8, 8, 8, 8, 8, 8, 8, 8, 8, 8, 8, 8, 8, 8, 8, 8, 8, 8, 8, 8, 8, 8, 8, 8, 8, 8, 8, 8, 8, 8, 8, 8, 8, 8, 8, 8, 8, 8, 8, 8, 8, 8, 8, 8, 8, 8, 8, 8, 8, 8, 8, 8, 8, 8, 8, 8, 8, 8, 8, 8, 8, 8, 8, 8, 8, 8, 8, 8, 8, 8, 8, 8, 8, 8, 8, 8, 8, 8, 8, 8, 8, 8, 8, 8, 8, 8, 8, 8, 8, 8, 8, 8, 8, 8, 8, 8, 8, 8, 8, 8, 8, 8, 8, 8, 8, 8, 8] (Int.toNat (wrap .u8 (Int.fdiv a0 (2 ^ (min (Int.toNat (8 : Int)) (IntKind.bits .u32)))))) 0) : Nat) : Int))))) none) none)) (cond (decide ((0 : Int) ≤ (wrap .u8 a0))) (cond (decide ((wrap .u8 a0) < ((List.length [0, 1, 2, 2, 3, 3, 3, 3, 4, 4, 4, 4, 4, 4, 4, 4, 5, 5, 5, 5, 5, 5, 5, 5, 5, 5, 5, 5, 5, 5, 5, 5, 6, 6, 6, 6, 6, 6, 6, 6, 6, 6, 6, 6, 6, 6, 6, 6, 6, 6, 6, 6, 6, 6, 6, 6, 6, 6, 6, 6, 6, 6, 6, 6, 7, 7, 7, 7, 7, 7, 7, 7, 7, 7, 7, 7, 7, 7, 7, 7, 7, 7, 7, 7, 7, 7, 7, 7, 7, 7, 7, 7, 7, 7, 7, 7, 7, 7, 7, 7, 7, 7, 7, 7, 7, 7, 7, 7, 7, 7, 7, 7, 7, 7, 7, 7, 7, 7, 7, 7, 7, 7, 7, 7, 7, 7, 7, 7, 8, 8, 8, 8, 8, 8, 8, 8, 8, 8, 8, 8, 8, 8, 8, 8, 8, 8, 8, 8, 8, 8, 8, 8, 8, 8, 8, 8, 8, 8, 8, 8, 8, 8, 8, 8, 8, 8, 8, 8, 8, 8, 8, 8, 8, 8, 8, 8, 8, 8, 8, 8, 8, 8, 8, 8, 8, 8, 8, 8, 8, 8, 8, 8, 8, 8, 8, 8, 8, 8, 8, 8, 8, 8, 8, 8, 8, 8, 8, 8, 8, 8, 8, 8, 8, 8, 8, 8, 8, 8, 8, 8, 8, 8, 8, 8, 8, 8, 8, 8, 8, 8, 8, 8, 8, 8, 8, 8, 8, 8, 8, 8, 8, 8, 8, 8, 8, 8, 8, 8, 8, 8, 8, 8, 8, 8, 8, 8] : Nat) : Int))) (some (wrap .i64 ((0 : Int) + (wrap .i64 ((UInt8.toNat (List.getD [0, 1, 2, 2, 3, 3, 3, 3, 4, 4, 4, 4, 4, 4, 4, 4, 5, 5, 5, 5, 5, 5, 5, 5, 5, 5, 5, 5, 5, 5, 5, 5, 6, 6, 6, 6, 6, 6, 6, 6, 6, 6, 6, 6, 6, 6, 6, 6, 6, 6, 6, 6, 6, 6, 6, 6, 6, 6, 6, 6, 6, 6, 6, 6, 7, 7, 7, 7, 7, 7, 7, 7, 7, 7, 7, 7, 7, 7, 7, 7, 7, 7, 7, 7, 7, 7, 7, 7, 7, 7, 7, 7, 7, 7, 7, 7, 7, 7, 7, 7, 7, 7, 7, 7, 7, 7, 7, 7, 7, 7, 7, 7, 7, 7, 7, 7, 7, 7, 7, 7, 7, 7, 7, 7, 7, 7, 7, 7, 8, 8, 8, 8, 8, 8, 8, 8, 8, 8, 8, 8, 8, 8, 8, 8, 8, 8, 8, 8, 8, 8, 8, 8, 8, 8, 8, 8, 8, 8, 8, 8, 8, 8, 8, 8, 8, 8, 8, 8, 8, 8, 8, 8, 8, 8, 8, 8, 8, 8, 8, 8, 8, 8, 8, 8, 8, 8, 8, 8, 8, 8, 8, 8, 8, 8, 8, 8, 8, 8, 8, 8, 8, 8, 8, 8, 8, 8, 8, 8, 8, 8, 8, 8, 8, 8, 8, 8, 8, 8, 8, 8, 8, 8, 8, 8, 8, 8, 8, 8, 8, 8, 8, 8, 8, 8, 8, 8, 8, 8, 8, 8, 8, 8, 8, 8, 8, 8, 8, 8, 8, 8, 8, 8, 8, 8, 8, 8] (Int.toNat (wrap .u8 a0)) 0) : Nat) : Int))))) none) none)))
def t158_ok (a0 : Int) : Bool := (t158 a0).isSome
def t158_0 (a0 : Int) : Int := ((t158 a0).getD ((Tc.dflt tI)))
def t159 (a0 : Int) : Option (Int) := (cond (decide (a0 ≥ (4294967296 : Int))) (cond (decide ((32 : Int) < 0)) none (cond (decide ((Int.fdiv a0 (2 ^ (min (Int.toNat (32 : Int)) (IntKind.bits .u64)))) ≥ (65536 : Int))) (cond (decide ((16 : Int) < 0)) none (cond (decide ((Int.fdiv (Int.fdiv a0 (2 ^ (min (Int.toNat (32 : Int)) (IntKind.bits .u64)))) (2 ^ (min (Int.toNat (16 : Int)) (IntKind.bits .u64)))) ≥ (256 : Int))) (cond (decide ((8 : Int) < 0)) none (cond (decide ((0 : Int) ≤ (wrap .u8 (Int.fdiv (Int.fdiv (Int.fdiv a0 (2 ^ (min (Int.toNat (32 : Int)) (IntKind.bits .u64)))) (2 ^ (min (Int.toNat (16 : Int)) (IntKind.bits .u64)))) (2 ^ (min (Int.toNat (8 : Int)) (IntKind.bits .u64))))))) (cond (decide ((wrap .u8 (Int.fdiv (Int.fdiv (Int.fdiv a0 (2 ^ (min (Int.toNat (32 : Int)) (IntKind.bits .u64)))) (2 ^ (min (Int.toNat (16 : Int)) (IntKind.bits .u64)))) (2 ^ (min (Int.toNat (8 : Int)) (IntKind.bits .u64))))) < ((List.length [0, 1, 2, 2, 3, 3, 3, 3, 4, 4, 4, 4, 4, 4, 4, 4, 5, 5, 5, 5, 5, 5, 5, 5, 5, 5, 5, 5, 5, 5, 5, 5, 6, 6, 6, 6, 6, 6, 6, 6, 6, 6, 6, 6, 6, 6, 6, 6, 6, 6, 6, 6, 6, 6, 6, 6, 6, 6, 6, 6, 6, 6, 6, 6, 7, 7, 7, 7, 7, 7, 7, 7, 7, 7, 7, 7, 7, 7, 7, 7, 7, 7, 7, 7, 7, 7, 7, 7, 7, 7, 7, 7, 7, 7, 7, 7, 7, 7, 7, 7, 7, 7, 7, 7, 7, 7, 7, 7, 7, 7, 7, 7, 7, 7, 7, 7, 7, 7, 7, 7, 7, 7, 7, 7, 7, 7, 7, 7, 8, 8, 8, 8, 8, 8, 8, 8, 8, 8, 8, 8, 8, 8, 8, 8, 8, 8, 8, 8, 8, 8, 8, 8, 8, 8, 8, 8, 8, 8, 8, 8, 8, 8, 8, 8, 8, 8, 8, 8, 8, 8, 8, 8, 8, 8, 8, 8, 8, 8, 8, 8, 8, 8, 8, 8, 8, 8, 8, 8, 8, 8, 8, 8, 8, 8, 8, 8, 8, 8, 8, 8, 8, 8, 8, 8, 8, 8, 8, 8, 8, 8, 8, 8, 8, 8, 8, 8, 8, 8, 8, 8, 8, 8, 8, 8, 8, 8, 8, 8, 8, 8, 8, 8, 8, 8, 8, 8, 8, 8, 8, 8, 8, 8, 8, 8, 8, 8, 8, 8, 8, 8, 8, 8, 8, 8, 8, 8] : Nat) : Int))) (some (wrap .i64 ((wrap .i64 ((wrap .i64 ((32 : Int) + (16 : Int))) + (8 : Int))) + (wrap .i64 ((UInt8.toNat (List.getD [0, 1, 2, 2, 3, 3, 3, 3, 4, 4, 4, 4, 4, 4, 4, 4, 5, 5, 5, 5, 5, 5, 5, 5, 5, 5, 5, 5, 5, 5, 5, 5, 6, 6, 6, 6, 6, 6, 6, 6, 6, 6, 6, 6, 6, 6, 6, 6, 6, 6, 6, 6, 6, 6, 6, 6, 6, 6, 6, 6, 6, 6, 6, 6, 7, 7, 7, 7, 7, 7, 7, 7, 7, 7, 7, 7, 7, 7, 7, 7, 7, 7, 7, 7, 7, 7, 7, 7, 7, 7, 7, 7, 7, 7, 7, 7, 7, 7, 7, 7, 7, 7, 7, 7, 7, 7, 7, 7, 7, 7, 7, 7, 7, 7, 7, 7, 7, 7, 7, 7, 7, 7, 7, 7, 7, 7, 7, 7, 8, 8, 8, 8, 8, 8, 8, 8, 8, 8, 8, 8, 8, 8, 8, 8, 8, 8, 8, 8, 8, 8, 8, 8, 8, 8, 8, 8, 8, 8, 8, 8, 8, 8, 8, 8, 8, 8, 8, 8, 8, 8, 8, 8, 8, 8, 8, 8, 8, 8, 8, 8, 8, 8, 8, 8, 8, 8, 8, 8, 8, 8, 8, 8, 8, 8, 8, 8, 8, 8, 8, 8, 8, 8, 8, 8, 8, 8, 8, 8, 8, 8, 8, 8, 8, 8, 8, 8, 8, 8, 8, 8, 8, 8, 8, 8, 8, 8, 8, 8, 8, 8, 8, 8, 8, 8, 8, 8, 8, 8, 8, 8, 8, 8, 8, 8, 8, 8, 8, 8, 8, 8, 8, 8, 8, 8, 8, 8] (Int.toNat (wrap .u8 (Int.fdiv (Int.fdiv (Int.fdiv a0 (2 ^ (min (Int.toNat (32 : Int)) (IntKind.bits .u64)))) (2 ^ (min (Int.toNat (16 : Int)) (IntKind.bits .u64)))) (2 ^ (min (Int.toNat (8 : Int)) (IntKind.bits .u64)))))) 0) : Nat) : Int))))) none) none)) (cond (decide ((0 : Int) ≤ (wrap .u8 (Int.fdiv (Int.fdiv a0 (2 ^ (min (Int.toNat (32 : Int)) (IntKind.bits .u64)))) (2 ^ (min (Int.toNat (16 : Int)) (IntKind.bits .u64))))))) (cond (decide ((wrap .u8 (Int.fdiv (Int.fdiv a0 (2 ^ (min (Int.toNat (32 : Int)) (IntKind.bits .u64)))) (2 ^ (min (Int.toNat (16 : Int)) (IntKind.bits .u64))))) < ((List.length [0, 1, 2, 2, 3, 3, 3, 3, 4, 4, 4, 4, 4, 4, 4, 4, 5, 5, 5, 5, 5, 5, 5, 5, 5, 5, 5, 5, 5, 5, 5, 5, 6, 6, 6, 6, 6, 6, 6, 6, 6, 6, 6, 6, 6, 6, 6, 6, 6, 6, 6, 6, 6, 6, 6, 6, 6, 6, 6, 6, 6, 6, 6, 6, 7, 7, 7, 7, 7, 7, 7, 7, 7, 7, 7, 7, 7, 7, 7, 7, 7, 7, 7, 7, 7, 7, 7, 7, 7, 7, 7, 7, 7, 7, 7, 7, 7, 7, 7, 7, 7, 7, 7, 7, 7, 7, 7, 7, 7, 7, 7, 7, 7, 7, 7, 7, 7, 7, 7, 7, 7, 7, 7, 7, 7, 7, 7, 7, 8, 8, 8, 8, 8, 8, 8, 8, 8, 8, 8, 8, 8, 8, 8, 8, 8, 8, 8, 8, 8, 8, 8, 8, 8, 8, 8, 8, 8, 8, 8, 8, 8, 8, 8, 8, 8, 8, 8, 8, 8, 8, 8, 8, 8, 8, 8, 8, 8, 8, 8, 8, 8, 8, 8, 8, 8, 8, 8, 8, 8, 8, 8, 8, 8, 8, 8, 8, 8, 8, 8, 8, 8, 8, 8, 8, 8, 8, 8, 8, 8, 8, 8, 8, 8, 8, 8, 8, 8, 8, 8, 8, 8, 8, 8, 8, 8, 8, 8, 8, 8, 8, 8, 8, 8, 8, 8, 8, 8, 8, 8, 8, 8, 8, 8, 8, 8, 8, 8, 8, 8, 8, 8, 8, 8, 8, 8, 8] : Nat) : Int))) (some (wrap .i64 ((wrap .i64 ((32 : Int) + (16 : Int))) + (wrap .i64 ((UInt8.toNat (List.getD [0, 1, 2, 2, 3, 3, 3, 3, 4, 4, 4, 4, 4, 4, 4, 4, 5, 5, 5, 5, 5, 5, 5, 5, 5, 5, 5, 5, 5, 5, 5, 5, 6, 6, 6, 6, 6, 6, 6, 6, 6, 6, 6, 6, 6, 6, 6, 6, 6, 6, 6, 6, 6, 6, 6, 6, 6, 6, 6, 6, 6, 6, 6, 6, 7, 7, 7, 7, 7, 7, 7, 7, 7, 7, 7, 7, 7, 7, 7, 7, 7, 7, 7, 7, 7, 7, 7, 7, 7, 7, 7, 7, 7, 7, 7, 7, 7, 7, 7, 7, 7, 7, 7, 7, 7, 7, 7, 7, 7, 7, 7, 7, 7, 7, 7, 7, 7, 7, 7, 7, 7, 7, 7, 7, 7, 7, 7, 7, 8, 8, 8, 8, 8, 8, 8, 8, 8, 8, 8, 8, 8, 8, 8, 8, 8, 8, 8, 8, 8, 8, 8, 8, 8, 8, 8, 8, 8, 8, 8, 8, 8, 8, 8, 8, 8, 8, 8, 8, 8, 8, 8, 8, 8, 8, 8, 8, 8, 8, 8, 8, 8, 8, 8, 8, 8, 8, 8, 8, 8, 8, 8, 8, 8, 8, 8, 8, 8, 8, 8, 8, 8, 8, 8, 8, 8, 8, 8, 8, 8, 8, 8, 8, 8, 8, 8, 8, 8, 8, 8, 8, 8, 8, 8, 8, 8, 8, 8, 8, 8, 8, 8, 8, 8, 8, 8, 8, 8, 8, 8, 8, 8, 8, 8, 8, 8, 8, 8, 8, 8, 8, 8, 8, 8, 8, 8, 8] (Int.toNat (wrap .u8 (Int.fdiv (Int.fdiv a0 (2 ^ (min (Int.toNat (32 : Int)) (IntKind.bits .u64)))) (2 ^ (min (Int.toNat (16 : Int)) (IntKind.bits .u64)))))) 0) : Nat) : Int))))) none) none))) (cond (decide ((Int.fdiv a0 (2 ^ (min (Int.toNat (32 : Int)) (IntKind.bits .u64)))) ≥ (256 : Int))) (cond (decide ((8 : Int) < 0)) none (cond (decide ((0 : Int) ≤ (wrap .u8 (Int.fdiv (Int.fdiv a0 (2 ^ (min (Int.toNat (32 : Int)) (IntKind.bits .u64)))) (2 ^ (min (Int.toNat (8 : Int)) (IntKind.bits .u64))))))) (cond (decide ((wrap .u8 (Int.fdiv (Int.fdiv a0 (2 ^ (min (Int.toNat (32 : Int)) (IntKind.bits .u64)))) (2 ^ (min (Int.toNat (8 : Int)) (IntKind.bits .u64))))) < ((List.length [0, 1, 2, 2, 3, 3, 3, 3, 4, 4, 4, 4, 4, 4, 4, 4, 5, 5, 5, 5, 5, 5, 5, 5, 5, 5, 5, 5, 5, 5, 5, 5, 6, 6, 6, 6, 6, 6, 6, 6, 6, 6, 6, 6, 6, 6, 6, 6, 6, 6, 6, 6, 6, 6, 6, 6, 6, 6, 6, 6, 6, 6, 6, 6, 7, 7, 7, 7, 7, 7, 7, 7, 7, 7, 7, 7, 7, 7, 7, 7, 7, 7, 7, 7, 7, 7, 7, 7, 7, 7, 7, 7, 7, 7, 7, 7, 7, 7, 7, 7, 7, 7, 7, 7, 7, 7, 7, 7, 7, 7, 7, 7, 7, 7, 7, 7, 7, 7, 7, 7, 7, 7, 7, 7, 7, 7, 7, 7, 8, 8, 8, 8, 8, 8, 8, 8, 8, 8, 8, 8, 8, 8, 8, 8, 8, 8, 8, 8, 8, 8, 8, 8, 8, 8, 8, 8, 8, 8, 8, 8, 8, 8, 8, 8, 8, 8, 8, 8, 8, 8, 8, 8, 8, 8, 8, 8, 8, 8, 8, 8, 8, 8, 8, 8, 8, 8, 8, 8, 8, 8, 8, 8, 8, 8, 8, 8, 8, 8, 8, 8, 8, 8, 8, 8, 8, 8, 8, 8, 8, 8, 8, 8, 8, 8, 8, 8, 8, 8, 8, 8, 8, 8, 8, 8, 8, 8, 8, 8, 8, 8, 8, 8, 8, 8, 8, 8, 8, 8, 8, 8, 8, 8, 8, 8, 8, 8, 8, 8, 8, 8, 8, 8, 8, 8, 8, 8] : Nat) : Int))) (some (wrap .i64 ((wrap .i64 ((32 : Int) + (8 : Int))) + (wrap .i64 ((UInt8.toNat (List.getD [0, 1, 2, 2, 3, 3, 3, 3, 4, 4, 4, 4, 4, 4, 4, 4, 5, 5, 5, 5, 5, 5, 5, 5, 5, 5, 5, 5, 5, 5, 5, 5, 6, 6, 6, 6, 6, 6, 6, 6, 6, 6, 6, 6, 6, 6, 6, 6, 6, 6, 6, 6, 6, 6, 6, 6, 6, 6, 6, 6, 6, 6, 6, 6, 7, 7, 7, 7, 7, 7, 7, 7, 7, 7, 7, 7, 7, 7, 7, 7, 7, 7, 7, 7, 7, 7, 7, 7, 7, 7, 7, 7, 7, 7, 7, 7, 7, 7, 7, 7, 7, 7, 7, 7, 7, 7, 7, 7, 7, 7, 7, 7, 7, 7, 7, 7, 7, 7, 7, 7, 7, 7, 7, 7, 7, 7, 7, 7, 8, 8, 8, 8, 8, 8, 8, 8, 8, 8, 8, 8, 8, 8, 8, 8, 8, 8, 8, 8, 8, 8, 8, 8, 8, 8, 8, 8, 8, 8, 8, 8, 8, 8, 8, 8, 8, 8, 8, 8, 8, 8, 8, 8, 8, 8, 8, 8, 8, 8, 8, 8, 8, 8, 8, 8, 8, 8, 8, 8, 8, 8, 8, 8, 8, 8, 8, 8, 8, 8, 8, 8, 8, 8, 8, 8, 8, 8, 8, 8, 8, 8, 8, 8, 8, 8, 8, 8, 8, 8, 8, 8, 8, 8, 8, 8, 8, 8, 8, 8, 8, 8, 8, 8, 8, 8, 8, 8, 8, 8, 8, 8, 8, 8, 8, 8, 8, 8, 8, 8, 8, 8, 8, 8, 8, 8, 8, 8] (Int.toNat (wrap .u8 (Int.fdiv (Int.fdiv a0 (2 ^ (min (Int.toNat (32 : Int)) (IntKind.bits .u64)))) (2 ^ (min (Int.toNat (8 : Int)) (IntKind.bits .u64)))))) 0) : Nat) : Int))))) none) none)) (cond (decide ((0 : Int) ≤ (wrap .u8 (Int.fdiv a0 (2 ^ (min (Int.toNat (32 : Int)) (IntKind.bits .u64))))))) (cond (decide ((wrap .u8 (Int.fdiv a0 (2 ^ (min (Int.toNat (32 : Int)) (IntKind.bits .u64))))) < ((List.length [0, 1, 2, 2, 3, 3, 3, 3, 4, 4, 4, 4, 4, 4, 4, 4, 5, 5, 5, 5, 5, 5, 5, 5, 5, 5, 5, 5, 5, 5, 5, 5, 6, 6, 6, 6, 6, 6, 6, 6, 6, 6, 6, 6, 6, 6, 6, 6, 6, 6, 6, 6, 6, 6, 6, 6, 6, 6, 6, 6, 6, 6, 6, 6, 7, 7, 7, 7, 7, 7, 7, 7, 7, 7, 7, 7, 7, 7, 7, 7, 7, 7, 7, 7, 7, 7, 7, 7, 7, 7, 7, 7, 7, 7, 7, 7, 7, 7, 7, 7, 7, 7, 7, 7, 7, 7, 7, 7, 7, 7, 7, 7, 7, 7, 7, 7, 7, 7, 7, 7, 7, 7, 7, 7, 7, 7, 7, 7, 8, 8, 8, 8, 8, 8, 8, 8, 8, 8, 8, 8, 8, 8, 8, 8, 8, 8, 8, 8, 8, 8, 8, 8, 8, 8, 8, 8, 8, 8, 8, 8, 8, 8, 8, 8, 8, 8, 8, 8, 8, 8, 8, 8, 8, 8, 8, 8, 8, 8, 8, 8, 8, 8, 8, 8, 8, 8, 8, 8, 8, 8, 8, 8, 8, 8, 8, 8, 8, 8, 8, 8, 8, 8, 8, 8, 8, 8, 8, 8, 8, 8, 8, 8, 8, 8, 8, 8, 8, 8, 8, 8, 8, 8, 8, 8, 8, 8, 8, 8, 8, 8, 8, 8, 8, 8, 8, 8, 8, 8, 8, 8, 8, 8, 8, 8, 8, 8, 8, 8, 8, 8, 8, 8, 8, 8, 8, 8] : Nat) : Int))) (some (wrap .i64 ((32 : Int) + (wrap .i64 ((UInt8.toNat (List.getD [0, 1, 2, 2, 3, 3, 3, 3, 4, 4, 4, 4, 4, 4, 4, 4, 5, 5, 5, 5, 5, 5, 5, 5, 5, 5, 5, 5, 5, 5, 5, 5, 6, 6, 6, 6, 6, 6, 6, 6, 6, 6, 6, 6, 6, 6, 6, 6, 6, 6, 6, 6, 6, 6, 6, 6, 6, 6, 6, 6, 6, 6, 6, 6, 7, 7, 7, 7, 7, 7, 7, 7, 7, 7, 7, 7, 7, 7, 7, 7, 7, 7, 7, 7, 7, 7, 7, 7, 7, 7, 7, 7, 7, 7, 7, 7, 7, 7, 7, 7, 7, 7, 7, 7, 7, 7, 7, 7, 7, 7, 7, 7, 7, 7, 7, 7, 7, 7, 7, 7, 7, 7, 7, 7, 7, 7, 7, 7, 8, 8, 8, 8, 8, 8, 8, 8, 8, 8, 8, 8, 8, 8, 8, 8, 8, 8, 8, 8, 8, 8, 8, 8, 8, 8, 8, 8, 8, 8, 8, 8, 8, 8, 8, 8, 8, 8, 8, 8, 8, 8, 8, 8, 8, 8, 8, 8, 8, 8, 8, 8, 8, 8, 8, 8, 8, 8, 8, 8, 8, 8, 8, 8, 8, 8, 8, 8, 8, 8, 8, 8, 8, 8, 8, 8, 8, 8, 8, 8, 8, 8, 8, 8, 8, 8, 8, 8, 8, 8, 8, 8, 8, 8, 8, 8, 8, 8, 8, 8, 8, 8, 8, 8, 8, 8, 8, 8, 8, 8, 8, 8, 8, 8, 8, 8, 8, 8, 8, 8, 8, 8, 8, 8, 8, 8, 8, 8] (Int.toNat (wrap .u8 (Int.fdiv a0 (2 ^ (min (Int.toNat (32 : Int)) (IntKind.bits .u64)))))) 0) : Nat) : Int))))) none) none)))) (cond (decide (a0 ≥ (65536 : Int))) (cond (decide ((16 : Int) < 0)) none (cond (decide ((Int.fdiv a0 (2 ^ (min (Int.toNat (16 : Int)) (IntKind.bits .u64)))) ≥ (256 : Int))) (cond (decide ((8 : Int) < 0)) none (cond (decide ((0 : Int) ≤ (wrap .u8 (Int.fdiv (Int.fdiv a0 (2 ^ (min (Int.toNat (16 : Int)) (IntKind.bits .u64)))) (2 ^ (min (Int.toNat (8 : Int)) (IntKind.bits .u64))))))) (cond (decide ((wrap .u8 (Int.fdiv (Int.fdiv a0 (2 ^ (min (Int.toNat (16 : Int)) (IntKind.bits .u64)))) (2 ^ (min (Int.toNat (8 : Int)) (IntKind.bits .u64))))) < ((List.length [0, 1, 2, 2, 3, 3, 3, 3, 4, 4, 4, 4, 4, 4, 4, 4, 5, 5, 5, 5, 5, 5, 5, 5, 5, 5, 5, 5, 5, 5, 5, 5, 6, 6, 6, 6, 6, 6, 6, 6, 6, 6, 6, 6, 6, 6, 6, 6, 6, 6, 6, 6, 6, 6, 6, 6, 6, 6, 6, 6, 6, 6, 6, 6, 7, 7, 7, 7, 7, 7, 7, 7, 7, 7, 7, 7, 7, 7, 7, 7, 7, 7, 7, 7, 7, 7, 7, 7, 7, 7, 7, 7, 7, 7, 7, 7, 7, 7, 7, 7, 7, 7, 7, 7, 7, 7, 7, 7, 7, 7, 7, 7, 7, 7, 7, 7, 7, 7, 7, 7, 7, 7, 7, 7, 7, 7, 7, 7, 8, 8, 8, 8, 8, 8, 8, 8, 8, 8, 8, 8, 8, 8, 8, 8, 8, 8, 8, 8, 8, 8, 8, 8, 8, 8, 8, 8, 8, 8, 8, 8, 8, 8, 8, 8, 8, 8, 8, 8, 8, 8, 8, 8, 8, 8, 8, 8, 8, 8, 8, 8, 8, 8, 8, 8, 8, 8, 8, 8, 8, 8, 8, 8, 8, 8, 8, 8, 8, 8, 8, 8, 8, 8, 8, 8, 8, 8, 8, 8, 8, 8, 8, 8, 8, 8, 8, 8, 8, 8, 8, 8, 8, 8, 8, 8, 8, 8, 8, 8, 8, 8, 8, 8, 8, 8, 8, 8, 8, 8, 8, 8, 8, 8, 8, 8, 8, 8, 8, 8, 8, 8, 8, 8, 8, 8, 8, 8] : Nat) : Int))) (some (wrap .i64 ((wrap .i64 ((wrap .i64 ((0 : Int) + (16 : Int))) + (8 : Int))) + (wrap .i64 ((UInt8.toNat (List.getD [0, 1, 2, 2, 3, 3, 3, 3, 4, 4, 4, 4, 4, 4, 4, 4, 5, 5, 5, 5, 5, 5, 5, 5, 5, 5, 5, 5, 5, 5, 5, 5, 6, 6, 6, 6, 6, 6, 6, 6, 6, 6, 6, 6, 6, 6, 6, 6, 6, 6, 6, 6, 6, 6, 6, 6, 6, 6, 6, 6, 6, 6, 6, 6, 7, 7, 7, 7, 7, 7, 7, 7, 7, 7, 7, 7, 7, 7, 7, 7, 7, 7, 7, 7, 7, 7, 7, 7, 7, 7, 7, 7, 7, 7, 7, 7, 7, 7, 7, 7, 7, 7, 7, 7, 7, 7, 7, 7, 7, 7, 7, 7, 7, 7, 7, 7, 7, 7, 7, 7, 7, 7, 7, 7, 7, 7, 7, 7, 8, 8, 8, 8, 8, 8, 8, 8, 8, 8, 8, 8, 8, 8, 8, 8, 8, 8, 8, 8, 8, 8, 8, 8, 8, 8, 8, 8, 8, 8, 8, 8, 8, 8, 8, 8, 8, 8, 8, 8, 8, 8, 8, 8, 8, 8, 8, 8, 8, 8, 8, 8, 8, 8, 8, 8, 8, 8, 8, 8, 8, 8, 8, 8, 8, 8, 8, 8, 8, 8, 8, 8, 8, 8, 8, 8, 8, 8, 8, 8, 8, 8, 8, 8, 8, 8, 8, 8, 8, 8, 8, 8, 8, 8, 8, 8, 8, 8, 8, 8, 8, 8, 8, 8, 8, 8, 8, 8, 8, 8, 8, 8, 8, 8, 8, 8, 8, 8, 8, 8, 8, 8, 8, 8, 8, 8, 8, 8] (Int.toNat (wrap .u8 (Int.fdiv (Int.fdiv a0 (2 ^ (min (Int.toNat (16 : Int)) (IntKind.bits .u64)))) (2 ^ (min (Int.toNat (8 : Int)) (IntKind.bits .u64)))))) 0) : Nat) : Int))))) none) none)) (cond (decide ((0 : Int) ≤ (wrap .u8 (Int.fdiv a0 (2 ^ (min (Int.toNat (16 : Int)) (IntKind.bits .u64))))))) (cond (decide ((wrap .u8 (Int.fdiv a0 (2 ^ (min (Int.toNat (16 : Int)) (IntKind.bits .u64))))) < ((List.length [0, 1, 2, 2, 3, 3, 3, 3, 4, 4, 4, 4, 4, 4, 4, 4, 5, 5, 5, 5, 5, 5, 5, 5, 5, 5, 5, 5, 5, 5, 5, 5, 6, 6, 6, 6, 6, 6, 6, 6, 6, 6, 6, 6, 6, 6, 6, 6, 6, 6, 6, 6, 6, 6, 6, 6, 6, 6, 6, 6, 6, 6, 6, 6, 7, 7, 7, 7, 7, 7, 7, 7, 7, 7, 7, 7, 7, 7, 7, 7, 7, 7, 7, 7, 7, 7, 7, 7, 7, 7, 7, 7, 7, 7, 7, 7, 7, 7, 7, 7, 7, 7, 7, 7, 7, 7, 7, 7, 7, 7, 7, 7, 7, 7, 7, 7, 7, 7, 7, 7, 7, 7, 7, 7, 7, 7, 7, 7, 8, 8, 8, 8, 8, 8, 8, 8, 8, 8, 8, 8, 8, 8, 8, 8, 8, 8, 8, 8, 8, 8, 8, 8, 8, 8, 8, 8, 8, 8, 8, 8, 8, 8, 8, 8, 8, 8, 8, 8, 8, 8, 8, 8, 8, 8, 8, 8, 8, 8, 8, 8, 8, 8, 8, 8, 8, 8, 8, 8, 8, 8, 8, 8, 8, 8, 8, 8, 8, 8, 8, 8, 8, 8, 8, 8, 8, 8, 8, 8, 8, 8, 8, 8, 8, 8, 8, 8, 8, 8, 8, 8, 8, 8, 8, 8, 8, 8, 8, 8, 8, 8, 8, 8, 8, 8, 8, 8, 8, 8, 8, 8, 8, 8, 8, 8, 8, 8, 8, 8, 8, 8, 8, 8, 8, 8, 8, 8] : Nat) : Int))) (some (wrap .i64 ((wrap .i64 ((0 : Int) + (16 : Int))) + (wrap .i64 ((UInt8.toNat (List.getD [0, 1, 2, 2, 3, 3, 3, 3, 4, 4, 4, 4, 4, 4, 4, 4, 5, 5, 5, 5, 5, 5, 5, 5, 5, 5, 5, 5, 5, 5, 5, 5, 6, 6, 6, 6, 6, 6, 6, 6, 6, 6, 6, 6, 6, 6, 6, 6, 6, 6, 6, 6, 6, 6, 6, 6, 6, 6, 6, 6, 6, 6, 6, 6, 7, 7, 7, 7, 7, 7, 7, 7, 7, 7, 7, 7, 7, 7, 7, 7, 7, 7, 7, 7, 7, 7, 7, 7, 7, 7, 7, 7, 7, 7, 7, 7, 7, 7, 7, 7, 7, 7, 7, 7, 7, 7, 7, 7, 7, 7, 7, 7, 7, 7, 7, 7, 7, 7, 7, 7, 7, 7, 7, 7, 7, 7, 7, 7, 8, 8, 8, 8, 8, 8, 8, 8, 8, 8, 8, 8, 8, 8, 8, 8, 8, 8, 8, 8, 8, 8, 8, 8, 8, 8, 8, 8, 8, 8, 8, 8, 8, 8, 8, 8, 8, 8, 8, 8, 8, 8, 8, 8, 8, 8, 8, 8, 8, 8, 8, 8, 8, 8, 8, 8, 8, 8, 8, 8, 8, 8, 8, 8, 8, 8, 8, 8, 8, 8, 8, 8, 8, 8, 8, 8, 8, 8, 8, 8, 8, 8, 8, 8, 8, 8, 8, 8, 8, 8, 8, 8, 8, 8, 8, 8, 8, 8, 8, 8, 8, 8, 8, 8, 8, 8, 8, 8, 8, 8, 8, 8, 8, 8, 8, 8, 8, 8, 8, 8, 8, 8, 8, 8, 8, 8, 8, 8] (Int.toNat (wrap .u8 (Int.fdiv a0 (2 ^ (min (Int.toNat (16 : Int)) (IntKind.bits .u64)))))) 0) : Nat) : Int))))) none) none))) (cond (decide (a0 ≥ (256 : Int))) (cond (decide ((8 : Int) < 0)) none (cond (decide ((0 : Int) ≤ (wrap .u8 (Int.fdiv a0 (2 ^ (min (Int.toNat (8 : Int)) (IntKind.bits .u64))))))) (cond (decide ((wrap .u8 (Int.fdiv a0 (2 ^ (min (Int.toNat (8 : Int)) (IntKind.bits .u64))))) < ((List.length [0, 1, 2, 2, 3, 3, 3, 3, 4, 4, 4, 4, 4, 4, 4, 4, 5, 5, 5, 5, 5, 5, 5, 5, 5, 5, 5, 5, 5, 5, 5, 5, 6, 6, 6, 6, 6, 6, 6, 6, 6, 6, 6, 6, 6, 6, 6, 6, 6, 6, 6, 6, 6, 6, 6, 6, 6, 6, 6, 6, 6, 6, 6, 6, 7, 7, 7, 7, 7, 7, 7, 7, 7, 7, 7, 7, 7, 7, 7, 7, 7, 7, 7, 7, 7, 7, 7, 7, 7, 7, 7, 7, 7, 7, 7, 7, 7, 7, 7, 7, 7, 7, 7, 7, 7, 7, 7, 7, 7, 7, 7, 7, 7, 7, 7, 7, 7, 7, 7, 7, 7, 7, 7, 7, 7, 7, 7, 7, 8, 8, 8, 8, 8, 8, 8, 8, 8, 8, 8, 8, 8, 8, 8, 8, 8, 8, 8, 8, 8, 8, 8, 8, 8, 8, 8, 8, 8, 8, 8, 8, 8, 8, 8, 8, 8, 8, 8, 8, 8, 8, 8, 8, 8, 8, 8, 8, 8, 8, 8, 8, 8, 8, 8, 8, 8, 8, 8, 8, 8, 8, 8, 8, 8, 8, 8, 8, 8, 8, 8, 8, 8, 8, 8, 8, 8, 8, 8, 8, 8, 8, 8, 8, 8, 8, 8, 8, 8, 8, 8, 8, 8, 8, 8, 8, 8, 8, 8, 8, 8, 8, 8, 8, 8, 8, 8, 8, 8, 8, 8, 8, 8, 8, 8, 8, 8, 8, 8, 8, 8, 8, 8, 8, 8, 8, 8, 8] : Nat) : Int))) (some (wrap .i64 ((wrap .i64 ((0 : Int) + (8 : Int))) + (wrap .i64 ((UInt8.toNat (List.getD [0, 1, 2, 2, 3, 3, 3, 3, 4, 4, 4, 4, 4, 4, 4, 4, 5, 5, 5, 5, 5, 5, 5, 5, 5, 5, 5, 5, 5, 5, 5, 5, 6, 6, 6, 6, 6, 6, 6, 6, 6, 6, 6, 6, 6, 6, 6, 6, 6, 6, 6, 6, 6, 6, 6, 6, 6, 6, 6, 6, 6, 6, 6, 6, 7, 7, 7, 7, 7, 7, 7, 7, 7, 7, 7, 7, 7, 7, 7, 7, 7, 7, 7, 7, 7, 7, 7, 7, 7, 7, 7, 7, 7, 7, 7, 7, 7, 7, 7, 7, 7, 7, 7, 7, 7, 7, 7, 7, 7, 7, 7, 7, 7, 7, 7, 7, 7, 7, 7, 7, 7, 7, 7, 7, 7, 7, 7, 7, 8, 8, 8, 8, 8, 8, 8, 8, 8, 8, 8, 8, 8, 8, 8, 8, 8, 8, 8, 8, 8, 8, 8, 8, 8, 8, 8, 8, 8, 8, 8, 8, 8, 8, 8, 8, 8, 8, 8, 8, 8, 8, 8, 8, 8, 8, 8, 8, 8, 8, 8, 8, 8, 8, 8, 8, 8, 8, 8, 8, 8, 8, 8, 8, 8, 8, 8, 8, 8, 8, 8, 8, 8, 8, 8, 8, 8, 8, 8, 8, 8, 8, 8, 8, 8, 8, 8, 8, 8, 8, 8, 8, 8, 8, 8, 8, 8, 8, 8, 8, 8, 8, 8, 8, 8, 8, 8, 8, 8, 8, 8, 8, 8, 8, 8, 8, 8, 8, 8, 8, 8, 8, 8, 8, 8, 8, 8, 8] (Int.toNat (wrap .u8 (Int.fdiv a0 (2 ^ (min (Int.toNat (8 : Int)) (IntKind.bits .u64)))))) 0) : Nat) : Int))))) none) none)) (cond (decide ((0 : Int) ≤ (wrap .u8 a0))) (cond (decide ((wrap .u8 a0) < ((List.length [0, 1, 2, 2, 3, 3, 3, 3, 4, 4, 4, 4, 4, 4, 4, 4, 5, 5, 5, 5, 5, 5, 5, 5, 5, 5, 5, 5, 5, 5, 5, 5, 6, 6, 6, 6, 6, 6, 6, 6, 6, 6, 6, 6, 6, 6, 6, 6, 6, 6, 6, 6, 6, 6, 6, 6, 6, 6, 6, 6, 6, 6, 6, 6, 7, 7, 7, 7, 7, 7, 7, 7, 7, 7, 7, 7, 7, 7, 7, 7, 7, 7, 7, 7, 7, 7, 7, 7, 7, 7, 7, 7, 7, 7, 7, 7, 7, 7, 7, 7, 7, 7, 7, 7, 7, 7, 7, 7, 7, 7, 7, 7, 7, 7, 7, 7, 7, 7, 7, 7, 7, 7, 7, 7, 7, 7, 7, 7, 8, 8, 8, 8, 8, 8, 8, 8, 8, 8, 8, 8, 8, 8, 8, 8, 8, 8, 8, 8, 8, 8, 8, 8, 8, 8, 8, 8, 8, 8, 8, 8, 8, 8, 8, 8, 8, 8, 8, 8, 8, 8, 8, 8, 8, 8, 8, 8, 8, 8, 8, 8, 8, 8, 8, 8, 8, 8, 8, 8, 8, 8, 8, 8, 8, 8, 8, 8, 8, 8, 8, 8, 8, 8, 8, 8, 8, 8, 8, 8, 8, 8, 8, 8, 8, 8, 8, 8, 8, 8, 8, 8, 8, 8, 8, 8, 8, 8, 8, 8, 8, 8, 8, 8, 8, 8, 8, 8, 8, 8, 8, 8, 8, 8, 8, 8, 8, 8, 8, 8, 8, 8, 8, 8, 8, 8, 8, 8] : Nat) : Int))) (some (wrap .i64 ((0 : Int) + (wrap .i64 ((UInt8.toNat (List.getD [0, 1, 2, 2, 3, 3, 3, 3, 4, 4, 4, 4, 4, 4, 4, 4, 5, 5, 5, 5, 5, 5, 5, 5, 5, 5, 5, 5, 5, 5, 5, 5, 6, 6, 6, 6, 6, 6, 6, 6, 6, 6, 6, 6, 6, 6, 6, 6, 6, 6, 6, 6, 6, 6, 6, 6, 6, 6, 6, 6, 6, 6, 6, 6, 7, 7, 7, 7, 7, 7, 7, 7, 7, 7, 7, 7, 7, 7, 7, 7, 7, 7, 7, 7, 7, 7, 7, 7, 7, 7, 7, 7, 7, 7, 7, 7, 7, 7, 7, 7, 7, 7, 7, 7, 7, 7, 7, 7, 7, 7, 7, 7, 7, 7, 7, 7, 7, 7, 7, 7, 7, 7, 7, 7, 7, 7, 7, 7, 8, 8, 8, 8, 8, 8, 8, 8, 8, 8, 8, 8, 8, 8, 8, 8, 8, 8, 8, 8, 8, 8, 8, 8, 8, 8, 8, 8, 8, 8, 8, 8, 8, 8, 8, 8, 8, 8, 8, 8, 8, 8, 8, 8, 8, 8, 8, 8, 8, 8, 8, 8, 8, 8, 8, 8, 8, 8, 8, 8, 8, 8, 8, 8, 8, 8, 8, 8, 8, 8, 8, 8, 8, 8, 8, 8, 8, 8, 8, 8, 8, 8, 8, 8, 8, 8, 8, 8, 8, 8, 8, 8, 8, 8, 8, 8, 8, 8, 8, 8, 8, 8, 8, 8, 8, 8, 8, 8, 8, 8, 8, 8, 8, 8, 8, 8, 8, 8, 8, 8, 8, 8, 8, 8, 8, 8, 8, 8] (Int.toNat (wrap .u8 a0)) 0) : Nat) : Int))))) none) none))))
def t159_ok (a0 : Int) : Bool := (t159 a0).isSome
def t159_0 (a0 : Int) : Int := ((t159 a0).getD ((Tc.dflt tI)))
def t132 (a0 : Int) : Option (Int) := (cond (t159_ok a0) (some (t159_0 a0)) none)
def t132_ok (a0 : Int) : Bool := (t132 a0).isSome
def t132_0 (a0 : Int) : Int := ((t132 a0).getD ((Tc.dflt tI)))
def t160 (a0 : Int) : Bool := (a0 != a0)
def t160_0 (a0 : Int) : Bool := (t160 a0)
def t183 (a0 : Int) (a1 : Int) : Bool := (cond (t160_0 a0) (cond (!(t160_0 a1)) true (decide (a0 < a1))) (decide (a0 < a1)))
def t183_0 (a0 : Int) (a1 : Int) : Bool := (t183 a0 a1)
def t100 (a0 : Int) : Bool := (!(outside a0 (1 : Int) (7 : Int)))
def t100_0 (a0 : Int) : Bool := (t100 a0)
def t15 (a0 : Chord) (a1 : Int) : Option (Chord × Int) := (cond ((chordF (a0.1, (a0.2.1, a0.2.2))) != (0 : Int)) (some (((0 : Int), ((0 : Int), (0 : Int))), (chordF (a0.1, (a0.2.1, a0.2.2))))) (cond (outside a1 (-127 : Int) (127 : Int)) (some (((0 : Int), ((0 : Int), (0 : Int))), (1 : Int))) (cond ((12 : Int) == 0) none (cond ((12 : Int) == 0) none (some (((Int.tmod (wrap .i64 ((Int.tmod (wrap .i64 (a0.1 + a1)) (12 : Int)) + (12 : Int))) (12 : Int)), (a0.2.1, a0.2.2)), (0 : Int)))))))
def t15_ok (a0 : Chord) (a1 : Int) : Bool := (t15 a0 a1).isSome
def t15_0 (a0 : Chord) (a1 : Int) : Chord := ((t15 a0 a1).getD ((Tc.dflt tChord), (Tc.dflt tI))).1
def t15_1 (a0 : Chord) (a1 : Int) : Int := ((t15 a0 a1).getD ((Tc.dflt tChord), (Tc.dflt tI))).2
def t73 (a0 : Int) (tn : Int) (mj : (List Int)) : Option (Bool) := (cond ((12 : Int) == 0) none (cond (decide (List.length mj ≤ 1000000)) (some (!(containsI mj (Int.tmod (wrap .i64 ((wrap .i64 (a0 - tn)) + (12 : Int))) (12 : Int))))) none))
def t73_ok (a0 : Int) (tn : Int) (mj : (List Int)) : Bool := (t73 a0 tn mj).isSome
def t73_0 (a0 : Int) (tn : Int) (mj : (List Int)) : Bool := ((t73 a0 tn mj).getD ((Tc.dflt .bool)))
def t76a (a0 : (List Int)) (tn : Int) (mj : (List Int)) : Option (Bool) := (cond (decide (List.length a0 ≤ 1000) && decide (List.length mj ≤ 1000)) (some (decide ((idxBy (fun o => t73_0 o tn mj) a0 0) ≥ (0 : Int)))) none)
def t76a_ok (a0 : (List Int)) (tn : Int) (mj : (List Int)) : Bool := (t76a a0 tn mj).isSome
def t76a_0 (a0 : (List Int)) (tn : Int) (mj : (List Int)) : Bool := ((t76a a0 tn mj).getD ((Tc.dflt .bool)))
def t75 (a0 : Chord) (tn : Int) (mj : (List Int)) : Option (Bool) := (cond (rightC (a0.1, (a0.2.1, a0.2.2))) (cond (t76a_ok (tonesR (a0.1, (a0.2.1, a0.2.2))) tn mj) (some (t76a_0 (tonesR (a0.1, (a0.2.1, a0.2.2))) tn mj)) none) none)
def t75_ok (a0 : Chord) (tn : Int) (mj : (List Int)) : Bool := (t75 a0 tn mj).isSome
def t75_0 (a0 : Chord) (tn : Int) (mj : (List Int)) : Bool := ((t75 a0 tn mj).getD ((Tc.dflt .bool)))
def t74 (a0 : (List Chord)) (tn : Int) (mj : (List Int)) : Option (Bool) := (cond (decide (List.length a0 ≤ 1000) && decide (List.length mj ≤ 1000) && List.all a0 rightC) (some (decide ((idxBy (fun o => t75_0 o tn mj) a0 0) ≥ (0 : Int)))) none)
def t74_ok (a0 : (List Chord)) (tn : Int) (mj : (List Int)) : Bool := (t74 a0 tn mj).isSome
def t74_0 (a0 : (List Chord)) (tn : Int) (mj : (List Int)) : Bool := ((t74 a0 tn mj).getD ((Tc.dflt .bool)))
def t72 (a0 : (List Chord)) : Option (Int) := (cond (decide (((List.length a0 : Nat) : Int) > (144 : Int))) (some (2 : Int)) (cond (decide (List.length a0 ≤ 1000)) (some (rowGo a0)) none))
def t72_ok (a0 : (List Chord)) : Bool := (t72 a0).isSome
def t72_0 (a0 : (List Chord)) : Int := ((t72 a0).getD ((Tc.dflt tI)))
def t20 (a0 : Bool) (a1 : Int) : Int := (cond a0 a1 (0 : Int))
def t20_0 (a0 : Bool) (a1 : Int) : Int := (t20 a0 a1)
def t81 (a0 : Chord) (ns : (List Int)) : Option (Bool) := (cond (rightC (a0.1, (a0.2.1, a0.2.2))) (cond (decide (List.length (tonesR (a0.1, (a0.2.1, a0.2.2))) ≤ 12)) (cond (decide (List.length ns ≤ 12)) (cond (decide (List.length (classI (tonesR (a0.1, (a0.2.1, a0.2.2)))) ≤ 1000000)) (cond (!(equalI (classI (tonesR (a0.1, (a0.2.1, a0.2.2)))) (classI ns))) (some true) (cond (decide ((0 : Int) ≤ (0 : Int))) (cond (decide ((0 : Int) < ((List.length (tonesR (a0.1, (a0.2.1, a0.2.2))) : Nat) : Int))) (cond (decide (0 < List.length ns) && decide (List.length ns ≤ 1000)) (cond ((12 : Int) == 0) none (some ((List.getD (tonesR (a0.1, (a0.2.1, a0.2.2))) (Int.toNat (0 : Int)) (Tc.dflt tI)) != (Int.tmod (minI ns) (12 : Int))))) none) none) none)) none) none) none) none)
def t81_ok (a0 : Chord) (ns : (List Int)) : Bool := (t81 a0 ns).isSome
def t81_0 (a0 : Chord) (ns : (List Int)) : Bool := ((t81 a0 ns).getD ((Tc.dflt .bool)))
def t24 (a0 : Chord) (a1 : Int) : Option (Chord) := (cond ((12 : Int) == 0) none (cond ((12 : Int) == 0) none (some ((Int.tmod (wrap .i64 ((Int.tmod (wrap .i64 (a0.1 + a1)) (12 : Int)) + (12 : Int))) (12 : Int)), (a0.2.1, a0.2.2)))))
def t24_ok (a0 : Chord) (a1 : Int) : Bool := (t24 a0 a1).isSome
def t24_0 (a0 : Chord) (a1 : Int) : Chord := ((t24 a0 a1).getD ((Tc.dflt tChord)))
def t84 (a0 : Int) (sc : (List Int)) : Option (Bool) := (cond (decide (List.length sc ≤ 1000000)) (some (!(containsI sc a0))) none)
def t84_ok (a0 : Int) (sc : (List Int)) : Bool := (t84 a0 sc).isSome
def t84_0 (a0 : Int) (sc : (List Int)) : Bool := ((t84 a0 sc).getD ((Tc.dflt .bool)))
def t76b (a0 : (List Int)) (sc : (List Int)) : Option (Bool) := (cond (decide (List.length a0 ≤ 1000) && decide (List.length sc ≤ 1000)) (some (decide ((idxBy (fun o => t84_0 o sc) a0 0) ≥ (0 : Int)))) none)
def t76b_ok (a0 : (List Int)) (sc : (List Int)) : Bool := (t76b a0 sc).isSome
def t76b_0 (a0 : (List Int)) (sc : (List Int)) : Bool := ((t76b a0 sc).getD ((Tc.dflt .bool)))
def t83 (a0 : Chord) (sc : (List Int)) : Option (Bool) := (cond (rightC (a0.1, (a0.2.1, a0.2.2))) (cond (t76b_ok (tonesR (a0.1, (a0.2.1, a0.2.2))) sc) (some (t76b_0 (tonesR (a0.1, (a0.2.1, a0.2.2))) sc)) none) none)
def t83_ok (a0 : Chord) (sc : (List Int)) : Bool := (t83 a0 sc).isSome
def t83_0 (a0 : Chord) (sc : (List Int)) : Bool := ((t83 a0 sc).getD ((Tc.dflt .bool)))
def t74a (a0 : (List Chord)) (sc : (List Int)) : Option (Bool) := (cond (decide (List.length a0 ≤ 1000) && decide (List.length sc ≤ 1000) && List.all a0 rightC) (some (decide ((idxBy (fun o => t83_0 o sc) a0 0) ≥ (0 : Int)))) none)
def t74a_ok (a0 : (List Chord)) (sc : (List Int)) : Bool := (t74a a0 sc).isSome
def t74a_0 (a0 : (List Chord)) (sc : (List Int)) : Bool := ((t74a a0 sc).getD ((Tc.dflt .bool)))
def t110  : (List Bytes) := ([[99], [99, 35], [100], [100, 35], [101], [102], [102, 35], [103], [103, 35], [97], [97, 35], [98]] : List Bytes)
def t110_0  : (List Bytes) := (t110)
def t111  : (List Bytes) := ([[], [109, 97, 106], [109, 105, 110], [100, 105, 109], [97, 117, 103], [55], [109, 97, 106, 55], [109, 105, 110, 55]] : List Bytes)
def t111_0  : (List Bytes) := (t111)
def t56 (a0 : Chord) : Option (Bytes × Int) := (cond ((chordF (a0.1, (a0.2.1, a0.2.2))) != (0 : Int)) (some ([], (chordF (a0.1, (a0.2.1, a0.2.2))))) (cond (decide ((0 : Int) ≤ a0.1)) (cond (decide (a0.1 < ((List.length t110_0 : Nat) : Int))) (cond (decide (List.length (List.getD t110_0 (Int.toNat a0.1) (Tc.dflt .str)) + List.length [32] ≤ 9223372036854775807)) (cond (decide ((0 : Int) ≤ a0.2.1)) (cond (decide (a0.2.1 < ((List.length t111_0 : Nat) : Int))) (cond (decide (List.length ((List.getD t110_0 (Int.toNat a0.1) (Tc.dflt .str)) ++ [32]) + List.length (List.getD t111_0 (Int.toNat a0.2.1) (Tc.dflt .str)) ≤ 9223372036854775807)) (cond (decide (a0.2.2 > (0 : Int))) (cond (decide (0 ≤ a0.2.2) && decide (a0.2.2 ≤ 99)) (cond (decide (List.length [47] + List.length (itoaB a0.2.2) ≤ 9223372036854775807)) (cond (decide (List.length (((List.getD t110_0 (Int.toNat a0.1) (Tc.dflt .str)) ++ [32]) ++ (List.getD t111_0 (Int.toNat a0.2.1) (Tc.dflt .str))) + List.length ([47] ++ (itoaB a0.2.2)) ≤ 9223372036854775807)) (some (((((List.getD t110_0 (Int.toNat a0.1) (Tc.dflt .str)) ++ [32]) ++ (List.getD t111_0 (Int.toNat a0.2.1) (Tc.dflt .str))) ++ ([47] ++ (itoaB a0.2.2))), (0 : Int))) none) none) none) (some ((((List.getD t110_0 (Int.toNat a0.1) (Tc.dflt .str)) ++ [32]) ++ (List.getD t111_0 (Int.toNat a0.2.1) (Tc.dflt .str))), (0 : Int)))) none) none) none) none) none) none))
def t56_ok (a0 : Chord) : Bool := (t56 a0).isSome
def t56_0 (a0 : Chord) : Bytes := ((t56 a0).getD ((Tc.dflt .str), (Tc.dflt tI))).1
def t56_1 (a0 : Chord) : Int := ((t56 a0).getD ((Tc.dflt .str), (Tc.dflt tI))).2
end Go.Ev.H

set_option linter.unusedVariables false
set_option linter.unusedSimpArgs false
set_option maxRecDepth 100000
namespace Go.Ev.H
open Go Go.Ev Go.Proofs

def tab : List (Nat × TI) := [
  (3, ⟨1, false, [dI .i64 0], some tI, [], none, 8, true, none⟩),
  (4, ⟨1, false, [dB false], some .bool, [], none, 1, true, none⟩),
  (5, ⟨1, false, [dI .u8 0], some (.int .u8), [], none, 1, true, none⟩),
  (9, ⟨1, false, [dS []], some .str, [], none, 16, true, none⟩),
  (12, ⟨1, false, [dI .u64 0], some (.int .u64), [], none, 8, true, none⟩),
  (13, ⟨2, true, [dS [], dI .u64 0], some (.st (.pair .str (.int .u64))), [(0, 9), (1, 12)], none, 24, false, none⟩),
  (17, ⟨1, false, [.nilp], none, [], none, 8, false, some 258⟩),
  (18, ⟨1, true, [.nilp], none, [(0, 17)], none, 8, false, none⟩),
  (19, ⟨1, true, [.nilp], none, [(0, 17)], none, 8, false, none⟩),
  (21, ⟨1, false, [dI .i32 0], some (.int .i32), [], none, 4, true, none⟩),
  (22, ⟨1, false, [.nil0], some (.slice tI), [], some 3, 24, false, none⟩),
  (23, ⟨1, false, [.nilp], none, [], none, 8, false, some 25⟩),
  (24, ⟨2, true, [.nil0, dI .i64 0], some (.st (.pair (.slice tI) tI)), [(0, 22), (1, 3)], none, 32, false, none⟩),
  (25, ⟨2, true, [.nil0, dI .i64 0], some (.st (.pair (.slice tI) tI)), [(0, 22), (1, 3)], none, 32, false, none⟩),
  (26, ⟨1, false, [.nilf], none, [], none, 8, false, none⟩),
  (27, ⟨3, true, [dI .i64 0, dI .i64 0, dI .i64 0], some tChord, [(0, 3), (1, 3), (2, 3)], none, 24, true, none⟩),
  (28, ⟨3, true, [dI .i64 0, dI .i64 0, dI .i64 0], some tChord, [(0, 3), (1, 3), (2, 3)], none, 24, true, none⟩),
  (31, ⟨1, false, [.nil0], some (.slice tChord), [], some 28, 24, false, none⟩),
  (34, ⟨1, false, [dI .i64 0], some tI, [], none, 8, true, none⟩),
  (56, ⟨1, false, [.nil0], some (.slice (.slice tI)), [], some 22, 24, false, none⟩),
  (58, ⟨1, false, [.nilf], none, [], none, 8, false, none⟩),
  (59, ⟨1, false, [.nilf], none, [], none, 8, false, none⟩),
  (62, ⟨1, false, [.nilf], none, [], none, 8, false, none⟩),
  (64, ⟨1, false, [.nilf], none, [], none, 8, false, none⟩),
  (65, ⟨1, false, [.nilf], none, [], none, 8, false, none⟩),
  (66, ⟨1, false, [.nilf], none, [], none, 8, false, none⟩),
  (67, ⟨1, false, [.nilf], none, [], none, 8, false, none⟩),
  (68, ⟨4, true, [dI .i64 0, dI .i64 0, dI .i64 0, dI .i64 0], some (.st (.pair tI (.pair tI (.pair tI tI)))), [(0, 3), (1, 3), (2, 3), (3, 3)], none, 32, false, none⟩),
  (69, ⟨4, true, [dI .i64 0, dI .i64 0, dI .i64 0, dI .i64 0], some (.st (.pair tI (.pair tI (.pair tI tI)))), [(0, 3), (1, 3), (2, 3), (3, 3)], none, 32, false, none⟩),
  (70, ⟨1, false, [.nilf], none, [], none, 8, false, none⟩),
  (71, ⟨1, false, [.nil0], some (.slice tChord), [], some 116, 24, false, none⟩),
  (72, ⟨1, false, [.nilf], none, [], none, 8, false, none⟩),
  (73, ⟨1, false, [.nilf], none, [], none, 8, false, none⟩),
  (74, ⟨1, false, [.nilf], none, [], none, 8, false, none⟩),
  (76, ⟨1, false, [.nilf], none, [], none, 8, false, none⟩),
  (77, ⟨1, false, [.nilf], none, [], none, 8, false, none⟩),
  (78, ⟨1, false, [.nilf], none, [], none, 8, false, none⟩),
  (80, ⟨1, false, [.nilf], none, [], none, 8, false, none⟩),
  (81, ⟨1, false, [.nilf], none, [], none, 8, false, none⟩),
  (82, ⟨1, false, [.nil0], some (.slice tRng), [], some 126, 24, false, none⟩),
  (83, ⟨1, false, [.nilf], none, [], none, 8, false, none⟩),
  (100, ⟨1, false, [.nilf], none, [], none, 8, false, none⟩),
  (106, ⟨1, false, [.nilf], none, [], none, 8, false, none⟩),
  (107, ⟨1, false, [.nil0], some (.slice tI), [], some 34, 24, false, none⟩),
  (110, ⟨1, false, [.nilf], none, [], none, 8, false, none⟩),
  (111, ⟨1, false, [.nilf], none, [], none, 8, false, none⟩),
  (112, ⟨1, false, [.nilf], none, [], none, 8, false, none⟩),
  (116, ⟨3, true, [dI .i64 0, dI .i64 0, dI .i64 0], some tChord, [(0, 3), (1, 3), (2, 3)], none, 24, true, none⟩),
  (119, ⟨1, false, [.nilf], none, [], none, 8, false, none⟩),
  (120, ⟨1, false, [.nilf], none, [], none, 8, false, none⟩),
  (121, ⟨1, false, [.nilm], none, [], none, 8, false, none⟩),
  (122, ⟨1, false, [.nilf], none, [], none, 8, false, none⟩),
  (124, ⟨1, false, [.nilf], none, [], none, 8, false, none⟩),
  (125, ⟨2, true, [dI .i64 0, dI .i64 0], some tRng, [(0, 3), (1, 3)], none, 16, true, none⟩),
  (126, ⟨2, true, [dI .i64 0, dI .i64 0], some tRng, [(0, 3), (1, 3)], none, 16, true, none⟩),
  (132, ⟨6, true, [dI .i64 0, dI .i64 0, dI .i64 0, .nil0, .nil0, .nil0], some (.st (.pair tChord (.pair (.slice tRng) (.pair (.slice tI) (.slice (.slice tI)))))), [(0, 28), (3, 82), (4, 22), (5, 56)], none, 96, false, none⟩),
  (142, ⟨1, false, [.nil0], some (.slice .str), [], some 9, 24, false, none⟩),
  (148, ⟨1, false, [.nilf], none, [], none, 8, false, none⟩),
  (154, ⟨1, false, [dI .u64 0], some (.int .u64), [], none, 8, true, none⟩),
  (159, ⟨1, false, [.nilf], none, [], none, 8, false, none⟩),
  (167, ⟨1, false, [dI .i64 0], some tI, [], none, 8, true, none⟩),
  (174, ⟨1, false, [dI .u32 0], some (.int .u32), [], none, 4, true, none⟩),
  (176, ⟨1, false, [dI .u64 0], some (.int .u64), [], none, 8, true, none⟩),
  (177, ⟨1, false, [.nilf], none, [], none, 8, false, none⟩)]
noncomputable def En0 : Env := ⟨ttOf tab, fun _ => none, fun _ _ => True⟩
noncomputable def I120 : FnI := ⟨En0, ⟨[], [], []⟩, Tryd.f120, codeOf Tryd.f120, [.data tI], 0⟩
noncomputable def S120 : Spec := genS [true, true] false ⟨[.undef, .undef], []⟩ [tI, tI] (fun x => true) (fun x => ⟨[.dat tI (below x.1 x.2.1)], []⟩)
noncomputable def En120 : Env := En0.add 120 S120
noncomputable def I63 : FnI := ⟨En120, ⟨[], [], []⟩, Tryd.f63, codeOf Tryd.f63, [.data tI], 1⟩
noncomputable def S63 : Spec := genS [false, true] true ⟨[.ptr 0 0, .undef], [(0, .box [.undef, .undef])]⟩ [tI, (.slice tI), tI] (fun x => atOk 1 x.2.2.1) (fun x => ⟨[.dat tI (next x.2.1 x.2.2.1 x.1)], [(0, .box [.dat (.slice tI) (x.2.1), .dat tI (nextAt x.2.2.1)])]⟩)
noncomputable def En63 : Env := En120.add 63 S63
noncomputable def I12 : FnI := ⟨En63, ⟨[], [], []⟩, Tryd.f12, codeOf Tryd.f12, [.data tI], 1⟩
noncomputable def S12 : Spec := genS [false, true, true] true ⟨[.ptr 0 0, .undef, .undef], [(0, .box [.undef, .undef])]⟩ [tI, tI, (.slice tI), tI] (fun x => atOk 1 x.2.2.2.1) (fun x => ⟨[.dat tI (rangeS x.2.2.1 x.2.2.2.1 x.1 x.2.1)], [(0, .box [.dat (.slice tI) (x.2.2.1), .dat tI (rangeAt x.2.2.2.1 x.1 x.2.1)])]⟩)
noncomputable def En12 : Env := En63.add 12 S12
noncomputable def I31 : FnI := ⟨En12, ⟨[], [], []⟩, Tryd.f31, codeOf Tryd.f31, [.data .bool], 1⟩
noncomputable def S31 : Spec := genS [false, true] true ⟨[.ptr 0 0, .undef], [(0, .box [.undef, .undef])]⟩ [tI, (.slice tI), tI] (fun x => atOk 1 x.2.2.1) (fun x => ⟨[.dat .bool (next x.2.1 x.2.2.1 x.1 == 0)], [(0, .box [.dat (.slice tI) (x.2.1), .dat tI (nextAt x.2.2.1)])]⟩)
noncomputable def En31 : Env := En12.add 31 S31
noncomputable def I78 : FnI := ⟨En31, ⟨[], [], []⟩, Tryd.f78, codeOf Tryd.f78, [.data (.slice tI)], 0⟩
noncomputable def S78 : Spec := genS [true] true ⟨[.undef], []⟩ [tI] (fun x => decide (0 ≤ x.1) && decide (x.1 ≤ 7)) (fun x => ⟨[.dat (.slice tI) (kindT x.1)], []⟩)
noncomputable def En78 : Env := En31.add 78 S78
noncomputable def I58 : FnI := ⟨En78, ⟨[(0, [1, 3, 8, 9, 10], [(3, tI)])], [307003], []⟩, Tryd.f58, codeOf Tryd.f58, [.data (.slice tI)], 0⟩
noncomputable def S58 : Spec := genS [true] true ⟨[.undef], []⟩ [tChord] (fun x => rightC x.1) (fun x => ⟨[.dat (.slice tI) (tonesR x.1)], []⟩)
noncomputable def En58 : Env := En78.add 58 S58
noncomputable def I10 : FnI := ⟨En58, ⟨[], [], []⟩, Tryd.f10, codeOf Tryd.f10, [.data tI], 1⟩
noncomputable def S10 : Spec := genS [false, true] true ⟨[.ptr 0 0, .undef], [(0, .box [.undef, .undef])]⟩ [(.slice tI), (.slice tI), tI] (fun x => atOk 1 x.2.2.1 && decide (0 < List.length x.1) && decide (List.length x.1 ≤ 1000)) (fun x => ⟨[.dat tI (pick x.2.1 x.2.2.1 x.1)], [(0, .box [.dat (.slice tI) (x.2.1), .dat tI (nextAt x.2.2.1)])]⟩)
noncomputable def En10 : Env := En58.add 10 S10
noncomputable def I62 : FnI := ⟨En10, ⟨[], [], []⟩, Tryd.f62, codeOf Tryd.f62, [.data tI], 1⟩
noncomputable def S62 : Spec := genS [false, true, true] true ⟨[.ptr 0 0, .undef, .undef], [(0, .box [.undef, .undef])]⟩ [tI, tI, (.slice tI), tI] (fun x => atOk 8 x.2.2.2.1) (fun x => ⟨[.dat tI ((oddS x.2.2.1 x.2.2.2.1 x.1 x.2.1).2)], [(0, .box [.dat (.slice tI) (x.2.2.1), .dat tI ((oddS x.2.2.1 x.2.2.2.1 x.1 x.2.1).1)])]⟩)
noncomputable def En62 : Env := En10.add 62 S62
noncomputable def I8 : FnI := ⟨En62, ⟨[(0, [0, 3, 4, 13, 14, 15], [(4, tI)])], [], []⟩, Tryd.f8, codeOf Tryd.f8, [.data (.slice tI)], 1⟩
noncomputable def aNotes (L : List Int) (at_ : Int) : Int × List Int := Classical.epsilon fun p => (at_ ≤ p.1 ∧ p.1 ≤ at_ + 100 ∧ p.2.length ≤ 5) ∧
  I8.run ⟨[.ptr 0 0], [(0, .box [.dat (.slice tI) L, .dat tI at_])]⟩ = some ⟨[.dat (.slice tI) p.2], [(0, .box [.dat (.slice tI) L, .dat tI p.1])]⟩
noncomputable def S8 : Spec := genS [false] true ⟨[.ptr 0 0], [(0, .box [.undef, .undef])]⟩ [(.slice tI), tI] (fun x => atOk 1000 x.2.1) (fun x => ⟨[.dat (.slice tI) ((aNotes x.1 x.2.1).2)], [(0, .box [.dat (.slice tI) (x.1), .dat tI ((aNotes x.1 x.2.1).1)])]⟩)
noncomputable def En8 : Env := En62.add 8 S8
noncomputable def I9 : FnI := ⟨En8, ⟨[], [], []⟩, Tryd.f9, codeOf Tryd.f9, [.data tChord], 1⟩
noncomputable def aChord (L : List Int) (at_ : Int) : Int × Chord := Classical.epsilon fun p => (at_ ≤ p.1 ∧ p.1 ≤ at_ + 10) ∧
  I9.run ⟨[.ptr 0 0], [(0, .box [.dat (.slice tI) L, .dat tI at_])]⟩ = some ⟨[.dat tChord p.2], [(0, .box [.dat (.slice tI) L, .dat tI p.1])]⟩
noncomputable def S9 : Spec := genS [false] true ⟨[.ptr 0 0], [(0, .box [.undef, .undef])]⟩ [(.slice tI), tI] (fun x => atOk 30 x.2.1) (fun x => ⟨[.dat tChord ((aChord x.1 x.2.1).2)], [(0, .box [.dat (.slice tI) (x.1), .dat tI ((aChord x.1 x.2.1).1)])]⟩)
noncomputable def En9 : Env := En8.add 9 S9
noncomputable def I11 : FnI := ⟨En9, ⟨[(0, [0, 5, 7, 8], [(5, tChord)])], [], []⟩, Tryd.f11, codeOf Tryd.f11, [.data (.slice tChord)], 1⟩
noncomputable def aChords (L : List Int) (at_ n : Int) : Int × List Chord := Classical.epsilon fun p => (at_ ≤ p.1 ∧ p.1 ≤ at_ + 100 ∧ p.2.length ≤ 5) ∧
  I11.run ⟨[.ptr 0 0, .dat tI n], [(0, .box [.dat (.slice tI) L, .dat tI at_])]⟩ = some ⟨[.dat (.slice tChord) p.2], [(0, .box [.dat (.slice tI) L, .dat tI p.1])]⟩
noncomputable def S11 : Spec := genS [false, true] true ⟨[.ptr 0 0, .undef], [(0, .box [.undef, .undef])]⟩ [tI, (.slice tI), tI] (fun x => atOk 1000 x.2.2.1 && decide (0 ≤ x.1) && decide (x.1 ≤ 5)) (fun x => ⟨[.dat (.slice tChord) ((aChords x.2.1 x.2.2.1 x.1).2)], [(0, .box [.dat (.slice tI) (x.2.1), .dat tI ((aChords x.2.1 x.2.2.1 x.1).1)])]⟩)
noncomputable def En11 : Env := En9.add 11 S11
noncomputable def I27 : FnI := ⟨En11, ⟨[(0, [0, 1, 12, 13], [])], [], []⟩, Tryd.f27, codeOf Tryd.f27, [.data .bool], 0⟩
noncomputable def S27 : Spec := genS [true, true] false ⟨[.undef, .undef], []⟩ [(.slice tI), (.slice tI)] (fun x => decide (List.length x.1 ≤ 1000000)) (fun x => ⟨[.dat .bool (equalI x.1 x.2.1)], []⟩)
noncomputable def En27 : Env := En11.add 27 S27
noncomputable def I71 : FnI := ⟨En27, ⟨[], [], []⟩, Tryd.f71, codeOf Tryd.f71, [.data .bool], 0⟩
noncomputable def S71 : Spec := genS [true, true, true] false ⟨[.undef, .undef, .undef], []⟩ [tI, tI, tI] (fun x => true) (fun x => ⟨[.dat .bool (outside x.1 x.2.1 x.2.2.1)], []⟩)
noncomputable def En71 : Env := En27.add 71 S71
noncomputable def I121 : FnI := ⟨En71, ⟨[], [], []⟩, Tryd.f121, codeOf Tryd.f121, [.data .bool], 0⟩
noncomputable def S121 : Spec := genS [true] false ⟨[.undef], []⟩ [tI] (fun x => true) (fun x => ⟨[.dat .bool (t121_0 x.1)], []⟩)
noncomputable def En121 : Env := En71.add 121 S121
noncomputable def I125 : FnI := ⟨En121, ⟨[(0, [0, 1, 7, 8], [])], [], []⟩, Tryd.f125, codeOf Tryd.f125, [.data tI], 0⟩
noncomputable def S125 : Spec := genS [true, false] true ⟨[.undef, .clos 121 []], []⟩ [(.slice tI)] (fun x => decide (List.length x.1 ≤ 1000)) (fun x => ⟨[.dat tI (idxBy (fun o => t121_0 o) x.1 0)], []⟩)
noncomputable def En125 : Env := En121.add 125 S125
noncomputable def I76 : FnI := ⟨En125, ⟨[], [], []⟩, Tryd.f76, codeOf Tryd.f76, [.data .bool], 0⟩
noncomputable def S76 : Spec := genS [true, false] true ⟨[.undef, .clos 121 []], []⟩ [(.slice tI)] (fun x => t76_ok x.1) (fun x => ⟨[.dat .bool (t76_0 x.1)], []⟩)
noncomputable def En76 : Env := En125.add 76 S76
noncomputable def I64 : FnI := ⟨En76, ⟨[], [], []⟩, Tryd.f64, codeOf Tryd.f64, [.data tI], 0⟩
noncomputable def S64 : Spec := genS [true, true] false ⟨[.undef, .undef], []⟩ [(.slice tI), tI] (fun x => decide (x.2.1 ≤ 1000)) (fun x => ⟨[.dat tI (notesF x.1 x.2.1)], []⟩)
noncomputable def En64 : Env := En76.add 64 S64
noncomputable def I158 : FnI := ⟨En64, ⟨[], [], []⟩, Tryd.f158, codeOf Tryd.f158, [.data tI], 0⟩
noncomputable def S158 : Spec := genS [true] false ⟨[.undef], []⟩ [(.int .u32)] (fun x => t158_ok x.1) (fun x => ⟨[.dat tI (t158_0 x.1)], []⟩)
noncomputable def En158 : Env := En64.add 158 S158
noncomputable def I159 : FnI := ⟨En158, ⟨[], [], []⟩, Tryd.f159, codeOf Tryd.f159, [.data tI], 0⟩
noncomputable def S159 : Spec := genS [true] false ⟨[.undef], []⟩ [(.int .u64)] (fun x => t159_ok x.1) (fun x => ⟨[.dat tI (t159_0 x.1)], []⟩)
noncomputable def En159 : Env := En158.add 159 S159
noncomputable def I132 : FnI := ⟨En159, ⟨[], [], []⟩, Tryd.f132, codeOf Tryd.f132, [.data tI], 0⟩
noncomputable def S132 : Spec := genS [true] false ⟨[.undef], []⟩ [(.int .u64)] (fun x => t132_ok x.1) (fun x => ⟨[.dat tI (t132_0 x.1)], []⟩)
noncomputable def En132 : Env := En159.add 132 S132
noncomputable def I160 : FnI := ⟨En132, ⟨[], [], []⟩, Tryd.f160, codeOf Tryd.f160, [.data .bool], 0⟩
noncomputable def S160 : Spec := genS [true] false ⟨[.undef], []⟩ [tI] (fun x => true) (fun x => ⟨[.dat .bool (t160_0 x.1)], []⟩)
noncomputable def En160 : Env := En132.add 160 S160
noncomputable def I183 : FnI := ⟨En160, ⟨[], [], []⟩, Tryd.f183, codeOf Tryd.f183, [.data .bool], 0⟩
noncomputable def S183 : Spec := genS [true, true] false ⟨[.undef, .undef], []⟩ [tI, tI] (fun x => true) (fun x => ⟨[.dat .bool (t183_0 x.1 x.2.1)], []⟩)
noncomputable def En183 : Env := En160.add 183 S183
noncomputable def I177 : FnI := ⟨En183, ⟨[(0, [0, 1, 2, 6], []), (2, [0, 1, 2, 6, 7], [])], [], []⟩, Tryd.f177, codeOf Tryd.f177, [], 1⟩
noncomputable def S177 : Spec := genS [false, true, true] true ⟨[.slc 0, .undef, .undef], [(0, .arr tI [])]⟩ [tI, tI, (.slice tI)] (fun x => decide (List.length x.2.2.1 ≤ 12) && x.1 == 0 && x.2.1 == (List.length x.2.2.1 : Int)) (fun x => ⟨[], [(0, .arr tI (sortI x.2.2.1))]⟩)
noncomputable def En177 : Env := En183.add 177 S177
noncomputable def I148 : FnI := ⟨En177, ⟨[(0, [0, 1, 2, 3, 8, 9], [])], [], []⟩, Tryd.f148, codeOf Tryd.f148, [], 1⟩
noncomputable def S148 : Spec := genS [false, true, true, true] true ⟨[.slc 0, .undef, .undef, .undef], [(0, .arr tI [])]⟩ [tI, tI, tI, (.slice tI)] (fun x => decide (List.length x.2.2.2.1 ≤ 12) && x.1 == 0 && x.2.1 == (List.length x.2.2.2.1 : Int)) (fun x => ⟨[], [(0, .arr tI (sortI x.2.2.2.1))]⟩)
noncomputable def En148 : Env := En177.add 148 S148
noncomputable def I122 : FnI := ⟨En148, ⟨[], [], []⟩, Tryd.f122, codeOf Tryd.f122, [], 1⟩
noncomputable def S122 : Spec := genS [false] true ⟨[.slc 0], [(0, .arr tI [])]⟩ [(.slice tI)] (fun x => decide (List.length x.1 ≤ 12)) (fun x => ⟨[], [(0, .arr tI (sortI x.1))]⟩)
noncomputable def En122 : Env := En148.add 122 S122
noncomputable def I123 : FnI := ⟨En122, ⟨[(0, [0, 3], []), (2, [0, 3, 4, 5], [])], [100028, 100056, 59], []⟩, Tryd.f123, codeOf Tryd.f123, [.take tI], 1⟩
noncomputable def S123 : Spec := genS [false] true ⟨[.slc 0], [(0, .arr tI [])]⟩ [(.slice tI)] (fun x => decide (List.length x.1 ≤ 1000)) (fun x => ⟨[.dat (.slice tI) (compI x.1)], [(0, .dead)]⟩)
noncomputable def En123 : Env := En122.add 123 S123
noncomputable def I65 : FnI := ⟨En123, ⟨[(0, [3, 6, 7, 8], [(3, tI)])], [], []⟩, Tryd.f65, codeOf Tryd.f65, [.data (.slice tI)], 0⟩
noncomputable def S65 : Spec := genS [true] true ⟨[.undef], []⟩ [(.slice tI)] (fun x => decide (List.length x.1 ≤ 12)) (fun x => ⟨[.dat (.slice tI) (classI x.1)], []⟩)
noncomputable def En65 : Env := En123.add 65 S65
noncomputable def I66 : FnI := ⟨En65, ⟨[(0, [0, 3, 4], [])], [], []⟩, Tryd.f66, codeOf Tryd.f66, [.data tI], 0⟩
noncomputable def S66 : Spec := genS [true] false ⟨[.undef], []⟩ [(.slice tI)] (fun x => decide (0 < List.length x.1) && decide (List.length x.1 ≤ 1000)) (fun x => ⟨[.dat tI (minI x.1)], []⟩)
noncomputable def En66 : Env := En65.add 66 S66
noncomputable def I119 : FnI := ⟨En66, ⟨[], [], []⟩, Tryd.f119, codeOf Tryd.f119, [.data (.slice tI)], 0⟩
noncomputable def S119 : Spec := genS [true] true ⟨[.undef], []⟩ [tI] (fun x => decide (0 ≤ x.1) && decide (x.1 ≤ 7)) (fun x => ⟨[.dat (.slice tI) (kindT x.1)], []⟩)
noncomputable def En119 : Env := En66.add 119 S119
noncomputable def I67 : FnI := ⟨En119, ⟨[(0, [1, 3, 4, 10, 11], [(4, tI)])], [], []⟩, Tryd.f67, codeOf Tryd.f67, [.data (.slice tI)], 0⟩
noncomputable def S67 : Spec := genS [true] true ⟨[.undef], []⟩ [tChord] (fun x => rightC x.1) (fun x => ⟨[.dat (.slice tI) (tonesR x.1)], []⟩)
noncomputable def En67 : Env := En119.add 67 S67
noncomputable def I68 : FnI := ⟨En67, ⟨[(0, [0, 1, 7, 8], [])], [], []⟩, Tryd.f68, codeOf Tryd.f68, [.data tI], 0⟩
noncomputable def S68 : Spec := genS [true, true] false ⟨[.undef, .undef], []⟩ [(.slice tI), tI] (fun x => decide (List.length x.1 ≤ 1000000)) (fun x => ⟨[.dat tI (indexI x.1 x.2.1)], []⟩)
noncomputable def En68 : Env := En67.add 68 S68
noncomputable def I13 : FnI := ⟨En68, ⟨[(0, [5, 6, 7, 22], [(7, tChord)]), (2, [5, 6, 7, 8, 9, 22], [(7, tChord)])], [], []⟩, Tryd.f13, codeOf Tryd.f13, [.data (.slice tChord), .data tI], 0⟩
noncomputable def S13 : Spec := genS [true] true ⟨[.undef], []⟩ [(.slice tI)] (fun x => true) (fun x => ⟨[.dat (.slice tChord) ((ofF x.1).1), .dat tI ((ofF x.1).2)], []⟩)
noncomputable def En13 : Env := En68.add 13 S13
noncomputable def I100 : FnI := ⟨En13, ⟨[], [], []⟩, Tryd.f100, codeOf Tryd.f100, [.data .bool], 0⟩
noncomputable def S100 : Spec := genS [true] false ⟨[.undef], []⟩ [tI] (fun x => true) (fun x => ⟨[.dat .bool (t100_0 x.1)], []⟩)
noncomputable def En100 : Env := En13.add 100 S100
noncomputable def I61 : FnI := ⟨En100, ⟨[], [], []⟩, Tryd.f61, codeOf Tryd.f61, [.data tI], 0⟩
noncomputable def S61 : Spec := genS [true] false ⟨[.undef], []⟩ [tChord] (fun x => true) (fun x => ⟨[.dat tI (chordF x.1)], []⟩)
noncomputable def En61 : Env := En100.add 61 S61
noncomputable def I69 : FnI := ⟨En61, ⟨[(0, [6, 7, 8], [])], [], []⟩, Tryd.f69, codeOf Tryd.f69, [.data tI], 0⟩
noncomputable def S69 : Spec := genS [true] false ⟨[.undef], []⟩ [(.slice tChord)] (fun x => decide (List.length x.1 ≤ 1000)) (fun x => ⟨[.dat tI (rowGo x.1)], []⟩)
noncomputable def En69 : Env := En61.add 69 S69
noncomputable def I70 : FnI := ⟨En69, ⟨[], [], []⟩, Tryd.f70, codeOf Tryd.f70, [.data .bool], 0⟩
noncomputable def S70 : Spec := genS [true, true] false ⟨[.undef, .undef], []⟩ [(.slice tI), tI] (fun x => decide (List.length x.1 ≤ 1000000)) (fun x => ⟨[.dat .bool (containsI x.1 x.2.1)], []⟩)
noncomputable def En70 : Env := En69.add 70 S70
noncomputable def I14 : FnI := ⟨En70, ⟨[(0, [3, 7, 18, 19, 20], [])], [], []⟩, Tryd.f14, codeOf Tryd.f14, [.data tI, .data tI], 0⟩
noncomputable def S14 : Spec := genS [true, true] false ⟨[.undef, .undef], []⟩ [tChord, tChord] (fun x => true) (fun x => ⟨[.dat tI ((sharedF x.1 x.2.1).1), .dat tI ((sharedF x.1 x.2.1).2)], []⟩)
noncomputable def En14 : Env := En70.add 14 S14
noncomputable def I15 : FnI := ⟨En14, ⟨[], [], []⟩, Tryd.f15, codeOf Tryd.f15, [.data tChord, .data tI], 0⟩
noncomputable def S15 : Spec := genS [true, true] false ⟨[.undef, .undef], []⟩ [tChord, tI] (fun x => t15_ok x.1 x.2.1) (fun x => ⟨[.dat tChord (t15_0 x.1 x.2.1), .dat tI (t15_1 x.1 x.2.1)], []⟩)
noncomputable def En15 : Env := En14.add 15 S15
noncomputable def I73 : FnI := ⟨En15, ⟨[], [], []⟩, Tryd.f73, codeOf Tryd.f73, [.data .bool], 3⟩
noncomputable def S73 : Spec := genS [true] true ⟨[.undef, .ptr 0 0, .ptr 1 0], [(0, .box [.slc 2]), (1, .box [.undef]), (2, .arr tI [])]⟩ [tI, tI, (.slice tI)] (fun x => t73_ok x.1 x.2.1 x.2.2.1) (fun x => ⟨[.dat .bool (t73_0 x.1 x.2.1 x.2.2.1)], [(0, .box [.slc 2]), (1, .box [.dat tI x.2.1]), (2, .arr tI x.2.2.1)]⟩)
noncomputable def En73 : Env := En15.add 73 S73
noncomputable def I125a : FnI := ⟨En73, ⟨[(0, [0, 1, 7, 8], [])], [], []⟩, Tryd.f125, codeOf Tryd.f125, [.data tI], 3⟩
noncomputable def S125a : Spec := genS [true, false] true ⟨[.undef, .clos 73 [.ptr 0 0, .ptr 1 0]], [(0, .box [.slc 2]), (1, .box [.undef]), (2, .arr tI [])]⟩ [(.slice tI), tI, (.slice tI)] (fun x => decide (List.length x.1 ≤ 1000) && decide (List.length x.2.2.1 ≤ 1000)) (fun x => ⟨[.dat tI (idxBy (fun o => t73_0 o x.2.1 x.2.2.1) x.1 0)], [(0, .box [.slc 2]), (1, .box [.dat tI (x.2.1)]), (2, .arr tI (x.2.2.1))]⟩)
noncomputable def SS125a : Spec := orS S125 S125a
noncomputable def En125a : Env := En73.add 125 SS125a
noncomputable def I76a : FnI := ⟨En125a, ⟨[], [], []⟩, Tryd.f76, codeOf Tryd.f76, [.data .bool], 3⟩
noncomputable def S76a : Spec := genS [true, false] true ⟨[.undef, .clos 73 [.ptr 0 0, .ptr 1 0]], [(0, .box [.slc 2]), (1, .box [.undef]), (2, .arr tI [])]⟩ [(.slice tI), tI, (.slice tI)] (fun x => t76a_ok x.1 x.2.1 x.2.2.1) (fun x => ⟨[.dat .bool (t76a_0 x.1 x.2.1 x.2.2.1)], [(0, .box [.slc 2]), (1, .box [.dat tI x.2.1]), (2, .arr tI x.2.2.1)]⟩)
noncomputable def SS76a : Spec := orS S76 S76a
noncomputable def En76a : Env := En125a.add 76 SS76a
noncomputable def I75 : FnI := ⟨En76a, ⟨[], [], []⟩, Tryd.f75, codeOf Tryd.f75, [.data .bool], 4⟩
noncomputable def S75 : Spec := genS [true] true ⟨[.undef, .ptr 0 0], [(0, .box [.clos 73 [.ptr 1 0, .ptr 2 0]]), (1, .box [.slc 3]), (2, .box [.undef]), (3, .arr tI [])]⟩ [tChord, tI, (.slice tI)] (fun x => t75_ok x.1 x.2.1 x.2.2.1) (fun x => ⟨[.dat .bool (t75_0 x.1 x.2.1 x.2.2.1)], [(0, .box [.clos 73 [.ptr 1 0, .ptr 2 0]]), (1, .box [.slc 3]), (2, .box [.dat tI x.2.1]), (3, .arr tI x.2.2.1)]⟩)
noncomputable def En75 : Env := En76a.add 75 S75
noncomputable def I124 : FnI := ⟨En75, ⟨[(0, [0, 1, 7, 8], [])], [], []⟩, Tryd.f124, codeOf Tryd.f124, [.data tI], 4⟩
noncomputable def S124 : Spec := genS [false, false] true ⟨[.undef, .clos 75 [.ptr 0 0]], [(0, .box [.clos 73 [.ptr 1 0, .ptr 2 0]]), (1, .box [.slc 3]), (2, .box [.undef]), (3, .arr tI [])]⟩ [(.slice tChord), tI, (.slice tI)] (fun x => decide (List.length x.1 ≤ 1000) && decide (List.length x.2.2.1 ≤ 1000) && List.all x.1 rightC) (fun x => ⟨[.dat tI (idxBy (fun o => t75_0 o x.2.1 x.2.2.1) x.1 0)], [(0, .box [.clos 73 [.ptr 1 0, .ptr 2 0]]), (1, .box [.slc 3]), (2, .box [.dat tI (x.2.1)]), (3, .arr tI (x.2.2.1))]⟩)
noncomputable def En124 : Env := En75.add 124 S124
noncomputable def I74 : FnI := ⟨En124, ⟨[], [], []⟩, Tryd.f74, codeOf Tryd.f74, [.data .bool], 4⟩
noncomputable def S74 : Spec := genS [true, false] true ⟨[.undef, .clos 75 [.ptr 0 0]], [(0, .box [.clos 73 [.ptr 1 0, .ptr 2 0]]), (1, .box [.slc 3]), (2, .box [.undef]), (3, .arr tI [])]⟩ [(.slice tChord), tI, (.slice tI)] (fun x => t74_ok x.1 x.2.1 x.2.2.1) (fun x => ⟨[.dat .bool (t74_0 x.1 x.2.1 x.2.2.1)], [(0, .box [.clos 73 [.ptr 1 0, .ptr 2 0]]), (1, .box [.slc 3]), (2, .box [.dat tI x.2.1]), (3, .arr tI x.2.2.1)]⟩)
noncomputable def En74 : Env := En124.add 74 S74
noncomputable def I72 : FnI := ⟨En74, ⟨[], [], []⟩, Tryd.f72, codeOf Tryd.f72, [.data tI], 0⟩
noncomputable def S72 : Spec := genS [true] false ⟨[.undef], []⟩ [(.slice tChord)] (fun x => t72_ok x.1) (fun x => ⟨[.dat tI (t72_0 x.1)], []⟩)
noncomputable def En72 : Env := En74.add 72 S72
noncomputable def I16 : FnI := ⟨En72, ⟨[(0, [0, 5, 6, 15], [(6, tI)])], [], []⟩, Tryd.f16, codeOf Tryd.f16, [.data (.slice tI), .data tI], 0⟩
noncomputable def S16 : Spec := genS [true] true ⟨[.undef], []⟩ [(.slice tChord)] (fun x => true) (fun x => ⟨[.dat (.slice tI) ((keysF x.1).1), .dat tI ((keysF x.1).2)], []⟩)
noncomputable def En16 : Env := En72.add 16 S16
noncomputable def I77 : FnI := ⟨En16, ⟨[], [], []⟩, Tryd.f77, codeOf Tryd.f77, [.data .bool], 0⟩
noncomputable def S77 : Spec := genS [true, true, true] false ⟨[.undef, .undef, .undef], []⟩ [tI, tI, tI] (fun x => true) (fun x => ⟨[.dat .bool (inR x.1 x.2.1 x.2.2.1)], []⟩)
noncomputable def En77 : Env := En16.add 77 S77
noncomputable def I17 : FnI := ⟨En77, ⟨[(1, [16, 17, 18], [])], [], []⟩, Tryd.f17, codeOf Tryd.f17, [.data tI], 0⟩
noncomputable def S17 : Spec := genS [true, true] false ⟨[.undef, .undef], []⟩ [(.slice tI), tI] (fun x => decide (x.2.1 ≤ 1000)) (fun x => ⟨[.dat tI (notesF x.1 x.2.1)], []⟩)
noncomputable def En17 : Env := En77.add 17 S17
noncomputable def I18 : FnI := ⟨En17, ⟨[(0, [5, 6, 7], [])], [], []⟩, Tryd.f18, codeOf Tryd.f18, [.data tI], 0⟩
noncomputable def S18 : Spec := genS [true] false ⟨[.undef], []⟩ [(.slice tI)] (fun x => decide (List.length x.1 ≤ 1000)) (fun x => ⟨[.dat tI (firstE x.1)], []⟩)
noncomputable def En18 : Env := En17.add 18 S18
noncomputable def I19 : FnI := ⟨En18, ⟨[], [], []⟩, Tryd.f19, codeOf Tryd.f19, [.data tI], 0⟩
noncomputable def S19 : Spec := genS [true] false ⟨[.undef], []⟩ [tChord] (fun x => true) (fun x => ⟨[.dat tI (chordF x.1)], []⟩)
noncomputable def En19 : Env := En18.add 19 S19
noncomputable def I20 : FnI := ⟨En19, ⟨[], [], []⟩, Tryd.f20, codeOf Tryd.f20, [.data tI], 0⟩
noncomputable def S20 : Spec := genS [true, true] false ⟨[.undef, .undef], []⟩ [.bool, tI] (fun x => true) (fun x => ⟨[.dat tI (t20_0 x.1 x.2.1)], []⟩)
noncomputable def En20 : Env := En19.add 20 S20
noncomputable def I21 : FnI := ⟨En20, ⟨[(0, [12, 13, 14], [])], [], []⟩, Tryd.f21, codeOf Tryd.f21, [.data tI], 0⟩
noncomputable def S21 : Spec := genS [true, true] false ⟨[.undef, .undef], []⟩ [(.slice tChord), tI] (fun x => decide (x.2.1 ≤ 1000)) (fun x => ⟨[.dat tI (rowF x.1 x.2.1)], []⟩)
noncomputable def En21 : Env := En20.add 21 S21
noncomputable def I82 : FnI := ⟨En21, ⟨[(0, [3, 6, 7, 8], [(3, tI)])], [], []⟩, Tryd.f82, codeOf Tryd.f82, [.data (.slice tI)], 0⟩
noncomputable def S82 : Spec := genS [true] true ⟨[.undef], []⟩ [(.slice tI)] (fun x => decide (List.length x.1 ≤ 12)) (fun x => ⟨[.dat (.slice tI) (classI x.1)], []⟩)
noncomputable def En82 : Env := En21.add 82 S82
noncomputable def I81 : FnI := ⟨En82, ⟨[], [], []⟩, Tryd.f81, codeOf Tryd.f81, [.data .bool], 1⟩
noncomputable def S81 : Spec := genS [true] true ⟨[.undef, .ptr 0 0], [(0, .box [.undef])]⟩ [tChord, (.slice tI)] (fun x => t81_ok x.1 x.2.1) (fun x => ⟨[.dat .bool (t81_0 x.1 x.2.1)], [(0, .box [.dat (.slice tI) x.2.1])]⟩)
noncomputable def En81 : Env := En82.add 81 S81
noncomputable def I124a : FnI := ⟨En81, ⟨[(0, [0, 1, 7, 8], [])], [], []⟩, Tryd.f124, codeOf Tryd.f124, [.data tI], 2⟩
noncomputable def S124a : Spec := genS [false, false] true ⟨[.slc 0, .clos 81 [.ptr 1 0]], [(0, .arr tChord []), (1, .box [.undef])]⟩ [(.slice tChord), (.slice tI)] (fun x => decide (List.length x.1 ≤ 1000) && decide (List.length x.2.1 ≤ 12) && decide (0 < List.length x.2.1) && List.all x.1 rightC) (fun x => ⟨[.dat tI (idxBy (fun o => t81_0 o x.2.1) x.1 0)], [(0, .arr tChord (x.1)), (1, .box [.dat (.slice tI) (x.2.1)])]⟩)
noncomputable def SS124a : Spec := orS S124 S124a
noncomputable def En124a : Env := En81.add 124 SS124a
noncomputable def I79 : FnI := ⟨En124a, ⟨[(0, [0, 1, 5, 6], [])], [100038, 41], []⟩, Tryd.f79, codeOf Tryd.f79, [.take tChord], 2⟩
noncomputable def S79 : Spec := genS [false, false] true ⟨[.slc 0, .clos 81 [.ptr 1 0]], [(0, .arr tChord []), (1, .box [.undef])]⟩ [(.slice tChord), (.slice tI)] (fun x => decide (List.length x.1 ≤ 1000) && decide (List.length x.2.1 ≤ 12) && decide (0 < List.length x.2.1) && List.all x.1 rightC) (fun x => ⟨[.dat (.slice tChord) (List.filter (fun o => !t81_0 o x.2.1) x.1)], [(0, .dead), (1, .box [.dat (.slice tI) (x.2.1)])]⟩)
noncomputable def En79 : Env := En124a.add 79 S79
noncomputable def I80 : FnI := ⟨En79, ⟨[(0, [1, 5], [(1, tChord)]), (2, [1, 2, 3, 5], [(1, tChord)]), (4, [1, 2, 3, 5, 14, 15], [(1, tChord)])], [], []⟩, Tryd.f80, codeOf Tryd.f80, [.own tChord], 0⟩
noncomputable def S80 : Spec := genS [] false ⟨[], []⟩ [] (fun x => true) (fun x => ⟨[.slc 0], [(0, .arr tChord allC)]⟩)
noncomputable def En80 : Env := En79.add 80 S80
noncomputable def I22 : FnI := ⟨En80, ⟨[], [], []⟩, Tryd.f22, codeOf Tryd.f22, [.data (.slice tChord)], 0⟩
noncomputable def S22 : Spec := genS [true] true ⟨[.undef], []⟩ [(.slice tI)] (fun x => decide (List.length x.1 ≤ 12) && decide (0 < List.length x.1)) (fun x => ⟨[.dat (.slice tChord) (ofL (classI x.1) (Int.tmod (minI x.1) 12))], []⟩)
noncomputable def En22 : Env := En80.add 22 S22
noncomputable def I23 : FnI := ⟨En22, ⟨[(0, [3, 5, 9, 10, 11], [])], [], []⟩, Tryd.f23, codeOf Tryd.f23, [.data tI], 0⟩
noncomputable def S23 : Spec := genS [true, true] false ⟨[.undef, .undef], []⟩ [tChord, tChord] (fun x => rightC x.1 && rightC x.2.1) (fun x => ⟨[.dat tI (sharedN x.1 x.2.1)], []⟩)
noncomputable def En23 : Env := En22.add 23 S23
noncomputable def I24 : FnI := ⟨En23, ⟨[], [], []⟩, Tryd.f24, codeOf Tryd.f24, [.data tChord], 0⟩
noncomputable def S24 : Spec := genS [true, true] false ⟨[.undef, .undef], []⟩ [tChord, tI] (fun x => t24_ok x.1 x.2.1) (fun x => ⟨[.dat tChord (t24_0 x.1 x.2.1)], []⟩)
noncomputable def En24 : Env := En23.add 24 S24
noncomputable def I84 : FnI := ⟨En24, ⟨[], [], []⟩, Tryd.f84, codeOf Tryd.f84, [.data .bool], 2⟩
noncomputable def S84 : Spec := genS [true] true ⟨[.undef, .ptr 0 0], [(0, .box [.slc 1]), (1, .arr tI [])]⟩ [tI, (.slice tI)] (fun x => t84_ok x.1 x.2.1) (fun x => ⟨[.dat .bool (t84_0 x.1 x.2.1)], [(0, .box [.slc 1]), (1, .arr tI x.2.1)]⟩)
noncomputable def En84 : Env := En24.add 84 S84
noncomputable def I125b : FnI := ⟨En84, ⟨[(0, [0, 1, 7, 8], [])], [], []⟩, Tryd.f125, codeOf Tryd.f125, [.data tI], 2⟩
noncomputable def S125b : Spec := genS [true, false] true ⟨[.undef, .clos 84 [.ptr 0 0]], [(0, .box [.slc 1]), (1, .arr tI [])]⟩ [(.slice tI), (.slice tI)] (fun x => decide (List.length x.1 ≤ 1000) && decide (List.length x.2.1 ≤ 1000)) (fun x => ⟨[.dat tI (idxBy (fun o => t84_0 o x.2.1) x.1 0)], [(0, .box [.slc 1]), (1, .arr tI (x.2.1))]⟩)
noncomputable def SS125b : Spec := orS SS125a S125b
noncomputable def En125b : Env := En84.add 125 SS125b
noncomputable def I76b : FnI := ⟨En125b, ⟨[], [], []⟩, Tryd.f76, codeOf Tryd.f76, [.data .bool], 2⟩
noncomputable def S76b : Spec := genS [true, false] true ⟨[.undef, .clos 84 [.ptr 0 0]], [(0, .box [.slc 1]), (1, .arr tI [])]⟩ [(.slice tI), (.slice tI)] (fun x => t76b_ok x.1 x.2.1) (fun x => ⟨[.dat .bool (t76b_0 x.1 x.2.1)], [(0, .box [.slc 1]), (1, .arr tI x.2.1)]⟩)
noncomputable def SS76b : Spec := orS SS76a S76b
noncomputable def En76b : Env := En125b.add 76 SS76b
noncomputable def I83 : FnI := ⟨En76b, ⟨[], [], []⟩, Tryd.f83, codeOf Tryd.f83, [.data .bool], 2⟩
noncomputable def S83 : Spec := genS [true] true ⟨[.undef, .ptr 0 0], [(0, .box [.slc 1]), (1, .arr tI [])]⟩ [tChord, (.slice tI)] (fun x => t83_ok x.1 x.2.1) (fun x => ⟨[.dat .bool (t83_0 x.1 x.2.1)], [(0, .box [.slc 1]), (1, .arr tI x.2.1)]⟩)
noncomputable def En83 : Env := En76b.add 83 S83
noncomputable def I124b : FnI := ⟨En83, ⟨[(0, [0, 1, 7, 8], [])], [], []⟩, Tryd.f124, codeOf Tryd.f124, [.data tI], 2⟩
noncomputable def S124b : Spec := genS [false, false] true ⟨[.undef, .clos 83 [.ptr 0 0]], [(0, .box [.slc 1]), (1, .arr tI [])]⟩ [(.slice tChord), (.slice tI)] (fun x => decide (List.length x.1 ≤ 1000) && decide (List.length x.2.1 ≤ 1000) && List.all x.1 rightC) (fun x => ⟨[.dat tI (idxBy (fun o => t83_0 o x.2.1) x.1 0)], [(0, .box [.slc 1]), (1, .arr tI (x.2.1))]⟩)
noncomputable def SS124b : Spec := orS SS124a S124b
noncomputable def En124b : Env := En83.add 124 SS124b
noncomputable def I74a : FnI := ⟨En124b, ⟨[], [], []⟩, Tryd.f74, codeOf Tryd.f74, [.data .bool], 2⟩
noncomputable def S74a : Spec := genS [true, false] true ⟨[.undef, .clos 83 [.ptr 0 0]], [(0, .box [.slc 1]), (1, .arr tI [])]⟩ [(.slice tChord), (.slice tI)] (fun x => t74a_ok x.1 x.2.1) (fun x => ⟨[.dat .bool (t74a_0 x.1 x.2.1)], [(0, .box [.slc 1]), (1, .arr tI x.2.1)]⟩)
noncomputable def SS74a : Spec := orS S74 S74a
noncomputable def En74a : Env := En124b.add 74 SS74a
noncomputable def I25 : FnI := ⟨En74a, ⟨[(0, [0, 3, 8], [(3, tI)]), (2, [0, 3, 4, 5, 8, 12, 13, 14], [])], [], [(5, [(0, tI)])]⟩, Tryd.f25, codeOf Tryd.f25, [.data (.slice tI)], 0⟩
noncomputable def S25 : Spec := genS [true] true ⟨[.undef], []⟩ [(.slice tChord)] (fun x => decide (List.length x.1 ≤ 1000) && List.all x.1 rightC) (fun x => ⟨[.dat (.slice tI) (keysL x.1)], []⟩)
noncomputable def En25 : Env := En74a.add 25 S25
noncomputable def I26 : FnI := ⟨En25, ⟨[(0, [0, 1, 12, 13], [])], [], []⟩, Tryd.f26, codeOf Tryd.f26, [.data .bool], 0⟩
noncomputable def S26 : Spec := genS [true, true] false ⟨[.undef, .undef], []⟩ [(.slice tChord), (.slice tChord)] (fun x => decide (List.length x.1 ≤ 1000)) (fun x => ⟨[.dat .bool (x.1 == x.2.1)], []⟩)
noncomputable def En26 : Env := En25.add 26 S26
noncomputable def I110 : FnI := ⟨En26, ⟨[], [], []⟩, Tryd.f110, codeOf Tryd.f110, [.data (.slice .str)], 0⟩
noncomputable def S110 : Spec := genS [] true ⟨[], []⟩ [] (fun x => true) (fun x => ⟨[.dat (.slice .str) t110_0], []⟩)
noncomputable def En110 : Env := En26.add 110 S110
noncomputable def I111 : FnI := ⟨En110, ⟨[], [], []⟩, Tryd.f111, codeOf Tryd.f111, [.data (.slice .str)], 0⟩
noncomputable def S111 : Spec := genS [] true ⟨[], []⟩ [] (fun x => true) (fun x => ⟨[.dat (.slice .str) t111_0], []⟩)
noncomputable def En111 : Env := En110.add 111 S111
noncomputable def S112 : Spec := genS [true] false ⟨[.undef], []⟩ [tI] (fun x => decide (0 ≤ x.1) && decide (x.1 ≤ 99)) (fun x => ⟨[.dat .str (itoaB x.1)], []⟩)
noncomputable def En112 : Env := En111.add 112 S112
noncomputable def I56 : FnI := ⟨En112, ⟨[], [], []⟩, Tryd.f56, codeOf Tryd.f56, [.data .str, .data tI], 0⟩
noncomputable def S56 : Spec := genS [true] false ⟨[.undef], []⟩ [tChord] (fun x => t56_ok x.1) (fun x => ⟨[.dat .str (t56_0 x.1), .dat tI (t56_1 x.1)], []⟩)
noncomputable def En56 : Env := En112.add 56 S56
noncomputable def I28 : FnI := ⟨En56, ⟨[], [], []⟩, Tryd.f28, codeOf Tryd.f28, [.data .bool], 0⟩
noncomputable def S28 : Spec := genS [] false ⟨[], []⟩ [] (fun x => true) (fun x => ⟨[.dat .bool true], []⟩)
noncomputable def En28 : Env := En56.add 28 S28
noncomputable def I3 : FnI := ⟨En28, ⟨[], [], []⟩, Tryd.f3, codeOf Tryd.f3, [.data .bool], 0⟩
noncomputable def S3 : Spec := genS [true] false ⟨[.undef], []⟩ [(.slice tI)] (fun x => true) (fun x => ⟨[.dat .bool true], []⟩)
end Go.Ev.H

set_option linter.unusedVariables false
set_option linter.unusedSimpArgs false
set_option maxRecDepth 100000
namespace Go.Ev.H
open Go Go.Ev Go.Proofs
theorem f120_run (a0 : Int) (a1 : Int) : I120.run ⟨[.dat tI a0, .dat tI a1], []⟩ = (cond (decide (a1 < (1 : Int))) (some ⟨[.dat tI (0 : Int)], []⟩) (cond (a1 == 0) none (cond (decide ((Int.tmod a0 a1) < (0 : Int))) (some ⟨[.dat tI (wrap .i64 ((Int.tmod a0 a1) + a1))], []⟩) (some ⟨[.dat tI (Int.tmod a0 a1)], []⟩)))) := (I120.run_eq _).trans (by kernel_rfl)
theorem f63_run (a0 : Int) (L : (List Int)) (at_ : Int) : I63.run ⟨[.ptr 0 0, .dat tI a0], [(0, .box [.dat (.slice tI) L, .dat tI at_])]⟩ = (cond (((List.length L : Nat) : Int) == (0 : Int)) (some ⟨[.dat tI (below (wrap .i64 ((wrap .i64 (at_ + (1 : Int))) * (7919 : Int))) a0)], [(0, .box [.dat (.slice tI) L, .dat tI (wrap .i64 (at_ + (1 : Int)))])]⟩) (cond (((List.length L : Nat) : Int) == 0) none (cond (((List.length L : Nat) : Int) == 0) none (cond (decide ((0 : Int) ≤ (Int.tmod (wrap .i64 ((wrap .i64 (at_ + (1 : Int))) - (1 : Int))) ((List.length L : Nat) : Int)))) (cond (decide ((Int.tmod (wrap .i64 ((wrap .i64 (at_ + (1 : Int))) - (1 : Int))) ((List.length L : Nat) : Int)) < ((List.length L : Nat) : Int))) (some ⟨[.dat tI (below (wrap .i64 ((below (List.getD L (Int.toNat (Int.tmod (wrap .i64 ((wrap .i64 (at_ + (1 : Int))) - (1 : Int))) ((List.length L : Nat) : Int))) (Tc.dflt tI)) (1073741824 : Int)) + (wrap .i64 ((wrap .i64 (Int.tdiv (wrap .i64 ((wrap .i64 (at_ + (1 : Int))) - (1 : Int))) ((List.length L : Nat) : Int))) * (wrap .i64 ((7919 : Int) + (Int.tmod (wrap .i64 ((wrap .i64 (at_ + (1 : Int))) - (1 : Int))) ((List.length L : Nat) : Int)))))))) a0)], [(0, .box [.dat (.slice tI) L, .dat tI (wrap .i64 (at_ + (1 : Int)))])]⟩) none) none)))) := (I63.run_eq _).trans (by kernel_rfl)
theorem f12_run (a0 : Int) (a1 : Int) (L : (List Int)) (at_ : Int) : I12.run ⟨[.ptr 0 0, .dat tI a0, .dat tI a1], [(0, .box [.dat (.slice tI) L, .dat tI at_])]⟩ = (cond (decide (a1 < a0)) (some ⟨[.dat tI a0], [(0, .box [.dat (.slice tI) L, .dat tI at_])]⟩) (cond (atOk 1 at_) (some ⟨[.dat tI (wrap .i64 (a0 + (next L at_ (wrap .i64 ((wrap .i64 (a1 - a0)) + (1 : Int))))))], [(0, .box [.dat (.slice tI) (L), .dat tI (nextAt at_)])]⟩) none)) := (I12.run_eq _).trans (by kernel_rfl)
theorem f31_run (a0 : Int) (L : (List Int)) (at_ : Int) : I31.run ⟨[.ptr 0 0, .dat tI a0], [(0, .box [.dat (.slice tI) L, .dat tI at_])]⟩ = (cond (atOk 1 at_) (some ⟨[.dat .bool ((next L at_ a0) == (0 : Int))], [(0, .box [.dat (.slice tI) (L), .dat tI (nextAt at_)])]⟩) none) := (I31.run_eq _).trans (by kernel_rfl)
theorem f78_run (a0 : Int) : I78.run ⟨[.dat tI a0], []⟩ = (cond (decide ((0 : Int) ≤ a0)) (cond (decide (a0 < ((List.length ([([] : List Int), [(0 : Int), (4 : Int), (7 : Int)], [(0 : Int), (3 : Int), (7 : Int)], [(0 : Int), (3 : Int), (6 : Int)], [(0 : Int), (4 : Int), (8 : Int)], [(0 : Int), (4 : Int), (7 : Int), (10 : Int)], [(0 : Int), (4 : Int), (7 : Int), (11 : Int)], [(0 : Int), (3 : Int), (7 : Int), (10 : Int)]] : List (List Int)) : Nat) : Int))) (cond (decide ((Int.toNat a0) < List.length ([([] : List Int), [(0 : Int), (4 : Int), (7 : Int)], [(0 : Int), (3 : Int), (7 : Int)], [(0 : Int), (3 : Int), (6 : Int)], [(0 : Int), (4 : Int), (8 : Int)], [(0 : Int), (4 : Int), (7 : Int), (10 : Int)], [(0 : Int), (4 : Int), (7 : Int), (11 : Int)], [(0 : Int), (3 : Int), (7 : Int), (10 : Int)]] : List (List Int)))) (some ⟨[.dat (.slice tI) (List.getD ([([] : List Int), [(0 : Int), (4 : Int), (7 : Int)], [(0 : Int), (3 : Int), (7 : Int)], [(0 : Int), (3 : Int), (6 : Int)], [(0 : Int), (4 : Int), (8 : Int)], [(0 : Int), (4 : Int), (7 : Int), (10 : Int)], [(0 : Int), (4 : Int), (7 : Int), (11 : Int)], [(0 : Int), (3 : Int), (7 : Int), (10 : Int)]] : List (List Int)) (Int.toNat a0) (Tc.dflt (.slice tI)))], []⟩) none) none) none) := (I78.run_eq _).trans (by kernel_rfl)
noncomputable def f58h0 (x0 : (List Int)) (x1 : Int) (x2 : Int) (x3 : Int) (x4 : Int) (x5 : Int) (x6 : (List Int)) : Option Fr := I58.hd 0 (mkF 36 [(1, .ptr 500 0), (3, .slc 501), (8, .dat (.slice tI) x0), (9, .dat tI x1), (10, .dat tI x2)] [(500, .box [.dat tI x3, .dat tI x4, .dat tI x5]), (501, .arr tI x6)])
theorem f58_run (a0 : Chord) : I58.run ⟨[.dat tChord a0], []⟩ = (cond (decide (0 ≤ a0.2.1) && decide (a0.2.1 ≤ 7)) (f58h0 (kindT a0.2.1) ((List.length (kindT a0.2.1) : Nat) : Int) (0 : Int) a0.1 a0.2.1 a0.2.2 ([] : List Int)) none) := (I58.run_eq _).trans (by kernel_rfl)
theorem f58h0_eq (x0 : (List Int)) (x1 : Int) (x2 : Int) (x3 : Int) (x4 : Int) (x5 : Int) (x6 : (List Int)) : f58h0 x0 x1 x2 x3 x4 x5 x6 = (cond (decide (x2 < x1)) (cond (decide ((0 : Int) ≤ x2)) (cond (decide (x2 < ((List.length x0 : Nat) : Int))) (cond ((12 : Int) == 0) none (cond (decide ((List.length x6 + List.length [(Int.tmod (wrap .i64 (x3 + (List.getD x0 (Int.toNat x2) (Tc.dflt tI)))) (12 : Int))]) * 8 ≤ 140737488355328)) (f58h0 x0 x1 (wrap .i64 (x2 + (1 : Int))) x3 x4 x5 (x6 ++ [(Int.tmod (wrap .i64 (x3 + (List.getD x0 (Int.toNat x2) (Tc.dflt tI)))) (12 : Int))])) none)) none) none) (cond (decide (((List.length x6 : Nat) : Int) = ((List.length x6 : Nat) : Int))) (cond (decide (((List.length x6 : Nat) : Int) = ((List.length x6 : Nat) : Int))) (cond (decide ((0 : Int) ≤ x5)) (cond (decide (x5 ≤ ((List.length x6 : Nat) : Int))) (cond (decide ((0 : Int) ≤ (0 : Int))) (cond (decide ((0 : Int) ≤ x5)) (cond (decide (x5 ≤ ((List.length x6 : Nat) : Int))) (cond (decide ((List.length (List.drop (Int.toNat x5) x6) + List.length (List.drop (Int.toNat (0 : Int)) (List.take (Int.toNat x5) x6))) * 8 ≤ 140737488355328)) (cond (List.isEmpty (List.drop (Int.toNat (0 : Int)) (List.take (Int.toNat x5) x6))) (some ⟨[.dat (.slice tI) (List.drop (Int.toNat x5) x6)], []⟩) (some ⟨[.dat (.slice tI) ((List.drop (Int.toNat x5) x6) ++ (List.drop (Int.toNat (0 : Int)) (List.take (Int.toNat x5) x6)))], []⟩)) none) none) none) none) none) none) none) none)) := hdEq (by kernel_rfl)
theorem f10_run (a0 : (List Int)) (L : (List Int)) (at_ : Int) : I10.run ⟨[.ptr 0 0, .dat (.slice tI) a0], [(0, .box [.dat (.slice tI) L, .dat tI at_])]⟩ = (cond (atOk 1 at_) (cond (decide ((0 : Int) ≤ (next L at_ ((List.length a0 : Nat) : Int)))) (cond (decide ((next L at_ ((List.length a0 : Nat) : Int)) < ((List.length a0 : Nat) : Int))) (some ⟨[.dat tI (List.getD a0 (Int.toNat (next L at_ ((List.length a0 : Nat) : Int))) (Tc.dflt tI))], [(0, .box [.dat (.slice tI) (L), .dat tI (nextAt at_)])]⟩) none) none) none) := (I10.run_eq _).trans (by kernel_rfl)
theorem f62_run (a0 : Int) (a1 : Int) (L : (List Int)) (at_ : Int) : I62.run ⟨[.ptr 0 0, .dat tI a0, .dat tI a1], [(0, .box [.dat (.slice tI) L, .dat tI at_])]⟩ = (cond (atOk 1 at_) (cond (next L at_ (12 : Int) == 0) (cond (atOk 1 (nextAt at_) && decide (0 < List.length [(wrap .i64 (a0 - (1 : Int))), (wrap .i64 (a1 + (1 : Int))), a0, a1, (-1099511627776 : Int), (1099511627776 : Int)]) && decide (List.length [(wrap .i64 (a0 - (1 : Int))), (wrap .i64 (a1 + (1 : Int))), a0, a1, (-1099511627776 : Int), (1099511627776 : Int)] ≤ 1000)) (some ⟨[.dat tI (pick (L) (nextAt at_) [(wrap .i64 (a0 - (1 : Int))), (wrap .i64 (a1 + (1 : Int))), a0, a1, (-1099511627776 : Int), (1099511627776 : Int)])], [(0, .box [.dat (.slice tI) ((L)), .dat tI (nextAt (nextAt at_))])]⟩) none) (cond (atOk 1 (nextAt at_)) (some ⟨[.dat tI (rangeS (L) (nextAt at_) a0 a1)], [(0, .box [.dat (.slice tI) ((L)), .dat tI (rangeAt (nextAt at_) a0 a1)])]⟩) none)) none) := (I62.run_eq _).trans (by kernel_rfl)
noncomputable def f8h0 (x0 : (List Int)) (x1 : Int) (x2 : Int) (x3 : (List Int)) (x4 : Int) (x5 : Int) (x6 : Int) (x7 : Int) (x8 : (List Int)) : Option Fr := I8.hd 0 (mkF 56 [(0, .ptr 0 0), (3, .ptr 501 0), (4, .slc 502), (13, .dat (.slice tI) x0), (14, .dat tI x1), (15, .dat tI x2)] [(0, .box [.dat (.slice tI) x3, .dat tI x4]), (501, .box [.dat tI x5, .dat tI x6, .dat tI x7]), (502, .arr tI x8)])
theorem f8_run (L : (List Int)) (at_ : Int) : I8.run ⟨[.ptr 0 0], [(0, .box [.dat (.slice tI) L, .dat tI at_])]⟩ = (cond (atOk 1 at_) (cond (atOk 1 (rangeAt at_ (0 : Int) (11 : Int))) (cond (rightC ((rangeS L at_ (0 : Int) (11 : Int)), ((rangeS (L) (rangeAt at_ (0 : Int) (11 : Int)) (1 : Int) (7 : Int)), (0 : Int)))) (f8h0 (tonesR ((rangeS L at_ (0 : Int) (11 : Int)), ((rangeS (L) (rangeAt at_ (0 : Int) (11 : Int)) (1 : Int) (7 : Int)), (0 : Int)))) ((List.length (tonesR ((rangeS L at_ (0 : Int) (11 : Int)), ((rangeS (L) (rangeAt at_ (0 : Int) (11 : Int)) (1 : Int) (7 : Int)), (0 : Int)))) : Nat) : Int) (0 : Int) ((L)) (rangeAt (rangeAt at_ (0 : Int) (11 : Int)) (1 : Int) (7 : Int)) (rangeS L at_ (0 : Int) (11 : Int)) (rangeS (L) (rangeAt at_ (0 : Int) (11 : Int)) (1 : Int) (7 : Int)) (0 : Int) ([] : List Int)) none) none) none) := (I8.run_eq _).trans (by kernel_rfl)
theorem f8h0_eq (x0 : (List Int)) (x1 : Int) (x2 : Int) (x3 : (List Int)) (x4 : Int) (x5 : Int) (x6 : Int) (x7 : Int) (x8 : (List Int)) : f8h0 x0 x1 x2 x3 x4 x5 x6 x7 x8 = (cond (decide (x2 < x1)) (cond (decide ((0 : Int) ≤ x2)) (cond (decide (x2 < ((List.length x0 : Nat) : Int))) (cond (atOk 1 x4) (cond (!(next x3 x4 (12 : Int) == 0)) (cond (atOk 1 (nextAt x4)) (cond (decide ((List.length x8 + List.length [(wrap .i64 ((wrap .i64 ((36 : Int) + (List.getD x0 (Int.toNat x2) (Tc.dflt tI)))) + (wrap .i64 ((12 : Int) * (rangeS (x3) (nextAt x4) (0 : Int) (3 : Int))))))]) * 8 ≤ 140737488355328)) (f8h0 x0 x1 (wrap .i64 (x2 + (1 : Int))) ((x3)) (rangeAt (nextAt x4) (0 : Int) (3 : Int)) x5 x6 x7 (x8 ++ [(wrap .i64 ((wrap .i64 ((36 : Int) + (List.getD x0 (Int.toNat x2) (Tc.dflt tI)))) + (wrap .i64 ((12 : Int) * (rangeS (x3) (nextAt x4) (0 : Int) (3 : Int))))))])) none) none) (f8h0 x0 x1 (wrap .i64 (x2 + (1 : Int))) (x3) (nextAt x4) x5 x6 x7 x8)) none) none) none) (cond (atOk 1 x4) (cond (next x3 x4 (4 : Int) == 0) (cond (decide ((List.length x8 + List.length [(wrap .i64 ((24 : Int) + x5))]) * 8 ≤ 140737488355328)) (cond (decide (((List.length (x8 ++ [(wrap .i64 ((24 : Int) + x5))]) : Nat) : Int) > (0 : Int))) (cond (atOk 1 (nextAt x4)) (cond (next (x3) (nextAt x4) (10 : Int) == 0) (cond (atOk 1 (nextAt (nextAt x4))) (cond (atOk 8 (nextAt (nextAt (nextAt x4)))) (cond (decide ((0 : Int) ≤ (next ((x3)) (nextAt (nextAt x4)) ((List.length (x8 ++ [(wrap .i64 ((24 : Int) + x5))]) : Nat) : Int)))) (cond (decide ((next ((x3)) (nextAt (nextAt x4)) ((List.length (x8 ++ [(wrap .i64 ((24 : Int) + x5))]) : Nat) : Int)) < ((List.length (x8 ++ [(wrap .i64 ((24 : Int) + x5))]) : Nat) : Int))) (cond (decide ((Int.toNat (next ((x3)) (nextAt (nextAt x4)) ((List.length (x8 ++ [(wrap .i64 ((24 : Int) + x5))]) : Nat) : Int))) < List.length (x8 ++ [(wrap .i64 ((24 : Int) + x5))]))) (some ⟨[.dat (.slice tI) (List.set (x8 ++ [(wrap .i64 ((24 : Int) + x5))]) (Int.toNat (next ((x3)) (nextAt (nextAt x4)) ((List.length (x8 ++ [(wrap .i64 ((24 : Int) + x5))]) : Nat) : Int))) ((oddS (((x3))) (nextAt (nextAt (nextAt x4))) (0 : Int) (127 : Int)).2))], [(0, .box [.dat (.slice tI) ((((x3)))), .dat tI ((oddS (((x3))) (nextAt (nextAt (nextAt x4))) (0 : Int) (127 : Int)).1)])]⟩) none) none) none) none) none) (some ⟨[.dat (.slice tI) (x8 ++ [(wrap .i64 ((24 : Int) + x5))])], [(0, .box [.dat (.slice tI) ((x3)), .dat tI (nextAt (nextAt x4))])]⟩)) none) (some ⟨[.dat (.slice tI) (x8 ++ [(wrap .i64 ((24 : Int) + x5))])], [(0, .box [.dat (.slice tI) (x3), .dat tI (nextAt x4)])]⟩)) none) (cond (decide (((List.length x8 : Nat) : Int) > (0 : Int))) (cond (atOk 1 (nextAt x4)) (cond (next (x3) (nextAt x4) (10 : Int) == 0) (cond (atOk 1 (nextAt (nextAt x4))) (cond (atOk 8 (nextAt (nextAt (nextAt x4)))) (cond (decide ((0 : Int) ≤ (next ((x3)) (nextAt (nextAt x4)) ((List.length x8 : Nat) : Int)))) (cond (decide ((next ((x3)) (nextAt (nextAt x4)) ((List.length x8 : Nat) : Int)) < ((List.length x8 : Nat) : Int))) (cond (decide ((Int.toNat (next ((x3)) (nextAt (nextAt x4)) ((List.length x8 : Nat) : Int))) < List.length x8)) (some ⟨[.dat (.slice tI) (List.set x8 (Int.toNat (next ((x3)) (nextAt (nextAt x4)) ((List.length x8 : Nat) : Int))) ((oddS (((x3))) (nextAt (nextAt (nextAt x4))) (0 : Int) (127 : Int)).2))], [(0, .box [.dat (.slice tI) ((((x3)))), .dat tI ((oddS (((x3))) (nextAt (nextAt (nextAt x4))) (0 : Int) (127 : Int)).1)])]⟩) none) none) none) none) none) (some ⟨[.dat (.slice tI) x8], [(0, .box [.dat (.slice tI) ((x3)), .dat tI (nextAt (nextAt x4))])]⟩)) none) (some ⟨[.dat (.slice tI) x8], [(0, .box [.dat (.slice tI) (x3), .dat tI (nextAt x4)])]⟩))) none)) := hdEq (by kernel_rfl)
theorem f9_run (L : (List Int)) (at_ : Int) : I9.run ⟨[.ptr 0 0], [(0, .box [.dat (.slice tI) L, .dat tI at_])]⟩ = (cond (atOk 1 at_) (cond (next L at_ (40 : Int) == 0) (cond (atOk 8 (nextAt at_)) (cond (atOk 8 ((oddS (L) (nextAt at_) (0 : Int) (11 : Int)).1)) (cond (atOk 8 ((oddS ((L)) ((oddS (L) (nextAt at_) (0 : Int) (11 : Int)).1) (1 : Int) (7 : Int)).1)) (some ⟨[.dat tChord (((oddS (L) (nextAt at_) (0 : Int) (11 : Int)).2), (((oddS ((L)) ((oddS (L) (nextAt at_) (0 : Int) (11 : Int)).1) (1 : Int) (7 : Int)).2), ((oddS (((L))) ((oddS ((L)) ((oddS (L) (nextAt at_) (0 : Int) (11 : Int)).1) (1 : Int) (7 : Int)).1) (0 : Int) (3 : Int)).2)))], [(0, .box [.dat (.slice tI) ((((L)))), .dat tI ((oddS (((L))) ((oddS ((L)) ((oddS (L) (nextAt at_) (0 : Int) (11 : Int)).1) (1 : Int) (7 : Int)).1) (0 : Int) (3 : Int)).1)])]⟩) none) none) none) (cond (atOk 1 (nextAt at_)) (cond (atOk 1 (rangeAt (nextAt at_) (0 : Int) (11 : Int))) (cond (atOk 1 (rangeAt (rangeAt (nextAt at_) (0 : Int) (11 : Int)) (1 : Int) (7 : Int)) && decide (0 < List.length [(0 : Int), (0 : Int), (0 : Int), (1 : Int), (2 : Int)]) && decide (List.length [(0 : Int), (0 : Int), (0 : Int), (1 : Int), (2 : Int)] ≤ 1000)) (some ⟨[.dat tChord ((rangeS (L) (nextAt at_) (0 : Int) (11 : Int)), ((rangeS ((L)) (rangeAt (nextAt at_) (0 : Int) (11 : Int)) (1 : Int) (7 : Int)), (pick (((L))) (rangeAt (rangeAt (nextAt at_) (0 : Int) (11 : Int)) (1 : Int) (7 : Int)) [(0 : Int), (0 : Int), (0 : Int), (1 : Int), (2 : Int)])))], [(0, .box [.dat (.slice tI) ((((L)))), .dat tI (nextAt (rangeAt (rangeAt (nextAt at_) (0 : Int) (11 : Int)) (1 : Int) (7 : Int)))])]⟩) none) none) none)) none) := (I9.run_eq _).trans (by kernel_rfl)
noncomputable def f11h0 (x0 : Int) (x1 : Int) (x2 : (List Int)) (x3 : Int) (x4 : (List Chord)) : Option Fr := I11.hd 0 (mkF 24 [(0, .ptr 0 0), (5, .slc 501), (7, .dat tI x0), (8, .dat tI x1)] [(0, .box [.dat (.slice tI) x2, .dat tI x3]), (501, .arr tChord x4)])
theorem f11_run (a0 : Int) (L : (List Int)) (at_ : Int) : I11.run ⟨[.ptr 0 0, .dat tI a0], [(0, .box [.dat (.slice tI) L, .dat tI at_])]⟩ = (f11h0 a0 (0 : Int) L at_ ([] : List Chord)) := (I11.run_eq _).trans (by kernel_rfl)
theorem f11h0_eq (x0 : Int) (x1 : Int) (x2 : (List Int)) (x3 : Int) (x4 : (List Chord)) : f11h0 x0 x1 x2 x3 x4 = (cond (decide (x1 < x0)) (cond (atOk 30 x3) (cond (atOk 1 ((aChord x2 x3).1)) (cond (next (x2) ((aChord x2 x3).1) (2 : Int) == 0) (cond (atOk 1 (nextAt ((aChord x2 x3).1)) && decide (0 < List.length [(0 : Int), (5 : Int), (7 : Int)]) && decide (List.length [(0 : Int), (5 : Int), (7 : Int)] ≤ 1000)) (cond (decide ((List.length x4 + List.length ([((pick ((x2)) (nextAt ((aChord x2 x3).1)) [(0 : Int), (5 : Int), (7 : Int)]), ((1 : Int), (0 : Int)))] : List Chord)) * 24 ≤ 140737488355328)) (f11h0 x0 (wrap .i64 (x1 + (1 : Int))) (((x2))) (nextAt (nextAt ((aChord x2 x3).1))) (x4 ++ ([((pick ((x2)) (nextAt ((aChord x2 x3).1)) [(0 : Int), (5 : Int), (7 : Int)]), ((1 : Int), (0 : Int)))] : List Chord))) none) none) (cond (decide ((List.length x4 + List.length ([(((aChord x2 x3).2).1, (((aChord x2 x3).2).2.1, ((aChord x2 x3).2).2.2))] : List Chord)) * 24 ≤ 140737488355328)) (f11h0 x0 (wrap .i64 (x1 + (1 : Int))) ((x2)) (nextAt ((aChord x2 x3).1)) (x4 ++ ([(((aChord x2 x3).2).1, (((aChord x2 x3).2).2.1, ((aChord x2 x3).2).2.2))] : List Chord))) none)) none) none) (some ⟨[.dat (.slice tChord) x4], [(0, .box [.dat (.slice tI) x2, .dat tI x3])]⟩)) := hdEq (by kernel_rfl)
noncomputable def f27h0 (x0 : (List Int)) (x1 : (List Int)) (x2 : Int) (x3 : Int) : Option Fr := I27.hd 0 (mkF 26 [(0, .dat (.slice tI) x0), (1, .dat (.slice tI) x1), (12, .dat tI x2), (13, .dat tI x3)] [])
theorem f27_run (a0 : (List Int)) (a1 : (List Int)) : I27.run ⟨[.dat (.slice tI) a0, .dat (.slice tI) a1], []⟩ = (cond (((List.length a0 : Nat) : Int) != ((List.length a1 : Nat) : Int)) (some ⟨[.dat .bool false], []⟩) (f27h0 a0 a1 ((List.length a0 : Nat) : Int) (0 : Int))) := (I27.run_eq _).trans (by kernel_rfl)
theorem f27h0_eq (x0 : (List Int)) (x1 : (List Int)) (x2 : Int) (x3 : Int) : f27h0 x0 x1 x2 x3 = (cond (decide (x3 < x2)) (cond (decide ((0 : Int) ≤ x3)) (cond (decide (x3 < ((List.length x0 : Nat) : Int))) (cond (decide ((0 : Int) ≤ x3)) (cond (decide (x3 < ((List.length x1 : Nat) : Int))) (cond ((List.getD x0 (Int.toNat x3) (Tc.dflt tI)) != (List.getD x1 (Int.toNat x3) (Tc.dflt tI))) (some ⟨[.dat .bool false], []⟩) (f27h0 x0 x1 x2 (wrap .i64 (x3 + (1 : Int))))) none) none) none) none) (some ⟨[.dat .bool true], []⟩)) := hdEq (by kernel_rfl)
theorem f71_run (a0 : Int) (a1 : Int) (a2 : Int) : I71.run ⟨[.dat tI a0, .dat tI a1, .dat tI a2], []⟩ = (cond (decide (a0 < a1)) (some ⟨[.dat .bool true], []⟩) (some ⟨[.dat .bool (decide (a0 > a2))], []⟩)) := (I71.run_eq _).trans (by kernel_rfl)
theorem f121_run (a0 : Int) : I121.run ⟨[.dat tI a0], []⟩ = (some ⟨[.dat .bool (outside a0 (0 : Int) (127 : Int))], []⟩) := (I121.run_eq _).trans (by kernel_rfl)
noncomputable def f125h0 (x0 : (List Int)) (x1 : Int) (x2 : Int) : Option Fr := I125.hd 0 (mkF 19 [(0, .dat (.slice tI) x0), (1, .clos 121 []), (7, .dat tI x1), (8, .dat tI x2)] [])
theorem f125_run (a0 : (List Int)) : I125.run ⟨[.dat (.slice tI) a0, .clos 121 []], []⟩ = (f125h0 a0 ((List.length a0 : Nat) : Int) (0 : Int)) := (I125.run_eq _).trans (by kernel_rfl)
theorem f125h0_eq (x0 : (List Int)) (x1 : Int) (x2 : Int) : f125h0 x0 x1 x2 = (cond (decide (x2 < x1)) (cond (decide ((0 : Int) ≤ x2)) (cond (decide (x2 < ((List.length x0 : Nat) : Int))) (cond (t121_0 (List.getD x0 (Int.toNat x2) (Tc.dflt tI))) (some ⟨[.dat tI x2], []⟩) (f125h0 x0 x1 (wrap .i64 (x2 + (1 : Int))))) none) none) (some ⟨[.dat tI (-1 : Int)], []⟩)) := hdEq (by kernel_rfl)
theorem f76_run (a0 : (List Int)) : I76.run ⟨[.dat (.slice tI) a0, .clos 121 []], []⟩ = (cond (decide (List.length a0 ≤ 1000)) (some ⟨[.dat .bool (decide ((idxBy (fun o => t121_0 o) a0 0) ≥ (0 : Int)))], []⟩) none) := (I76.run_eq _).trans (by kernel_rfl)
theorem f64_run (a0 : (List Int)) (a1 : Int) : I64.run ⟨[.dat (.slice tI) a0, .dat tI a1], []⟩ = (cond (((List.length a0 : Nat) : Int) == (0 : Int)) (some ⟨[.dat tI (8 : Int)], []⟩) (cond (decide (((List.length a0 : Nat) : Int) > a1)) (some ⟨[.dat tI (2 : Int)], []⟩) (cond (t76_ok a0) (cond (t76_0 a0) (some ⟨[.dat tI (1 : Int)], []⟩) (some ⟨[.dat tI (0 : Int)], []⟩)) none))) := (I64.run_eq _).trans (by kernel_rfl)
theorem f158_run (a0 : Int) : I158.run ⟨[.dat (.int .u32) a0], []⟩ = (cond (decide (a0 ≥ (65536 : Int))) (cond (decide ((16 : Int) < 0)) none (cond (decide ((Int.fdiv a0 (2 ^ (min (Int.toNat (16 : Int)) (IntKind.bits .u32)))) ≥ (256 : Int))) (cond (decide ((8 : Int) < 0)) none (cond (decide ((0 : Int) ≤ (wrap .u8 (Int.fdiv (Int.fdiv a0 (2 ^ (min (Int.toNat (16 : Int)) (IntKind.bits .u32)))) (2 ^ (min (Int.toNat (8 : Int)) (IntKind.bits .u32))))))) (cond (decide ((wrap .u8 (Int.fdiv (Int.fdiv a0 (2 ^ (min (Int.toNat (16 : Int)) (IntKind.bits .u32)))) (2 ^ (min (Int.toNat (8 : Int)) (IntKind.bits .u32))))) < ((List.length [0, 1, 2, 2, 3, 3, 3, 3, 4, 4, 4, 4, 4, 4, 4, 4, 5, 5, 5, 5, 5, 5, 5, 5, 5, 5, 5, 5, 5, 5, 5, 5, 6, 6, 6, 6, 6, 6, 6, 6, 6, 6, 6, 6, 6, 6, 6, 6, 6, 6, 6, 6, 6, 6, 6, 6, 6, 6, 6, 6, 6, 6, 6, 6, 7, 7, 7, 7, 7, 7, 7, 7, 7, 7, 7, 7, 7, 7, 7, 7, 7, 7, 7, 7, 7, 7, 7, 7, 7, 7, 7, 7, 7, 7, 7, 7, 7, 7, 7, 7, 7, 7, 7, 7, 7, 7, 7, 7, 7, 7, 7, 7, 7, 7, 7, 7, 7, 7, 7, 7, 7, 7, 7, 7, 7, 7, 7, 7, 8, 8, 8, 8, 8, 8, 8, 8, 8, 8, 8, 8, 8, 8, 8, 8, 8, 8, 8, 8, 8, 8, 8, 8, 8, 8, 8, 8, 8, 8, 8, 8, 8, 8, 8, 8, 8, 8, 8, 8, 8, 8, 8, 8, 8, 8, 8, 8, 8, 8, 8, 8, 8, 8, 8, 8, 8, 8, 8, 8, 8, 8, 8, 8, 8, 8, 8, 8, 8, 8, 8, 8, 8, 8, 8, 8, 8, 8, 8, 8, 8, 8, 8, 8, 8, 8, 8, 8, 8, 8, 8, 8, 8, 8, 8, 8, 8, 8, 8, 8, 8, 8, 8, 8, 8, 8, 8, 8, 8, 8, 8, 8, 8, 8, 8, 8, 8, 8, 8, 8, 8, 8, 8, 8, 8, 8, 8, 8] : Nat) : Int))) (some ⟨[.dat tI (wrap .i64 ((wrap .i64 ((16 : Int) + (8 : Int))) + (wrap .i64 ((UInt8.toNat (List.getD [0, 1, 2, 2, 3, 3, 3, 3, 4, 4, 4, 4, 4, 4, 4, 4, 5, 5, 5, 5, 5, 5, 5, 5, 5, 5, 5, 5, 5, 5, 5, 5, 6, 6, 6, 6, 6, 6, 6, 6, 6, 6, 6, 6, 6, 6, 6, 6, 6, 6, 6, 6, 6, 6, 6, 6, 6, 6, 6, 6, 6, 6, 6, 6, 7, 7, 7, 7, 7, 7, 7, 7, 7, 7, 7, 7, 7, 7, 7, 7, 7, 7, 7, 7, 7, 7, 7, 7, 7, 7, 7, 7, 7, 7, 7, 7, 7, 7, 7, 7, 7, 7, 7, 7, 7, 7, 7, 7, 7, 7, 7, 7, 7, 7, 7, 7, 7, 7, 7, 7, 7, 7, 7, 7, 7, 7, 7, 7, 8, 8, 8, 8, 8, 8, 8, 8, 8, 8, 8, 8, 8, 8, 8, 8, 8, 8, 8, 8, 8, 8, 8, 8, 8, 8, 8, 8, 8, 8, 8, 8, 8, 8, 8, 8, 8, 8, 8, 8, 8, 8, 8, 8, 8, 8, 8, 8, 8, 8, 8, 8, 8, 8, 8, 8, 8, 8, 8, 8, 8, 8, 8, 8, 8, 8, 8, 8, 8, 8, 8, 8, 8, 8, 8, 8, 8, 8, 8, 8, 8, 8, 8, 8, 8, 8, 8, 8, 8, 8, 8, 8, 8, 8, 8, 8, 8, 8, 8, 8, 8, 8, 8, 8, 8, 8, 8, 8, 8, 8, 8, 8, 8, 8, 8, 8, 8, 8, 8, 8, 8, 8, 8, 8, 8, 8, 8, 8] (Int.toNat (wrap .u8 (Int.fdiv (Int.fdiv a0 (2 ^ (min (Int.toNat (16 : Int)) (IntKind.bits .u32)))) (2 ^ (min (Int.toNat (8 : Int)) (IntKind.bits .u32)))))) 0) : Nat) : Int))))], []⟩) none) none)) (cond (decide ((0 : Int) ≤ (wrap .u8 (Int.fdiv a0 (2 ^ (min (Int.toNat (16 : Int)) (IntKind.bits .u32))))))) (cond (decide ((wrap .u8 (Int.fdiv a0 (2 ^ (min (Int.toNat (16 : Int)) (IntKind.bits .u32))))) < ((List.length [0, 1, 2, 2, 3, 3, 3, 3, 4, 4, 4, 4, 4, 4, 4, 4, 5, 5, 5, 5, 5, 5, 5, 5, 5, 5, 5, 5, 5, 5, 5, 5, 6, 6, 6, 6, 6, 6, 6, 6, 6, 6, 6, 6, 6, 6, 6, 6, 6, 6, 6, 6, 6, 6, 6, 6, 6, 6, 6, 6, 6, 6, 6, 6, 7, 7, 7, 7, 7, 7, 7, 7, 7, 7, 7, 7, 7, 7, 7, 7, 7, 7, 7, 7, 7, 7, 7, 7, 7, 7, 7, 7, 7, 7, 7, 7, 7, 7, 7, 7, 7, 7, 7, 7, 7, 7, 7, 7, 7, 7, 7, 7, 7, 7, 7, 7, 7, 7, 7, 7, 7, 7, 7, 7, 7, 7, 7, 7, 8, 8, 8, 8, 8, 8, 8, 8, 8, 8, 8, 8, 8, 8, 8, 8, 8, 8, 8, 8, 8, 8, 8, 8, 8, 8, 8, 8, 8, 8, 8, 8, 8, 8, 8, 8, 8, 8, 8, 8, 8, 8, 8, 8, 8, 8, 8, 8, 8, 8, 8, 8, 8, 8, 8, 8, 8, 8, 8, 8, 8, 8, 8, 8, 8, 8, 8, 8, 8, 8, 8, 8, 8, 8, 8, 8, 8, 8, 8, 8, 8, 8, 8, 8, 8, 8, 8, 8, 8, 8, 8, 8, 8, 8, 8, 8, 8, 8, 8, 8, 8, 8, 8, 8, 8, 8, 8, 8, 8, 8, 8, 8, 8, 8, 8, 8, 8, 8, 8, 8, 8, 8, 8, 8, 8, 8, 8, 8] : Nat) : Int))) (some ⟨[.dat tI (wrap .i64 ((16 : Int) + (wrap .i64 ((UInt8.toNat (List.getD [0, 1, 2, 2, 3, 3, 3, 3, 4, 4, 4, 4, 4, 4, 4, 4, 5, 5, 5, 5, 5, 5, 5, 5, 5, 5, 5, 5, 5, 5, 5, 5, 6, 6, 6, 6, 6, 6, 6, 6, 6, 6, 6, 6, 6, 6, 6, 6, 6, 6, 6, 6, 6, 6, 6, 6, 6, 6, 6, 6, 6, 6, 6, 6, 7, 7, 7, 7, 7, 7, 7, 7, 7, 7, 7, 7, 7, 7, 7, 7, 7, 7, 7, 7, 7, 7, 7, 7, 7, 7, 7, 7, 7, 7, 7, 7, 7, 7, 7, 7, 7, 7, 7, 7, 7, 7, 7, 7, 7, 7, 7, 7, 7, 7, 7, 7, 7, 7, 7, 7, 7, 7, 7, 7, 7, 7, 7, 7, 8, 8, 8, 8, 8, 8, 8, 8, 8, 8, 8, 8, 8, 8, 8, 8, 8, 8, 8, 8, 8, 8, 8, 8, 8, 8, 8, 8, 8, 8, 8, 8, 8, 8, 8, 8, 8, 8, 8, 8, 8, 8, 8, 8, 8, 8, 8, 8, 8, 8, 8, 8, 8, 8, 8, 8, 8, 8, 8, 8, 8, 8, 8, 8, 8, 8, 8, 8, 8, 8, 8, 8, 8, 8, 8, 8, 8, 8, 8, 8, 8, 8, 8, 8, 8, 8, 8, 8, 8, 8, 8, 8, 8, 8, 8, 8, 8, 8, 8, 8, 8, 8, 8, 8, 8, 8, 8, 8, 8, 8, 8, 8, 8, 8, 8, 8, 8, 8, 8, 8, 8, 8, 8, 8, 8, 8, 8, 8] (Int.toNat (wrap .u8 (Int.fdiv a0 (2 ^ (min (Int.toNat (16 : Int)) (IntKind.bits .u32)))))) 0) : Nat) : Int))))], []⟩) none) none))) (cond (decide (a0 ≥ (256 : Int))) (cond (decide ((8 : Int) < 0)) none (cond (decide ((0 : Int) ≤ (wrap .u8 (Int.fdiv a0 (2 ^ (min (Int.toNat (8 : Int)) (IntKind.bits .u32))))))) (cond (decide ((wrap .u8 (Int.fdiv a0 (2 ^ (min (Int.toNat (8 : Int)) (IntKind.bits .u32))))) < ((List.length [0, 1, 2, 2, 3, 3, 3, 3, 4, 4, 4, 4, 4, 4, 4, 4, 5, 5, 5, 5, 5, 5, 5, 5, 5, 5, 5, 5, 5, 5, 5, 5, 6, 6, 6, 6, 6, 6, 6, 6, 6, 6, 6, 6, 6, 6, 6, 6, 6, 6, 6, 6, 6, 6, 6, 6, 6, 6, 6, 6, 6, 6, 6, 6, 7, 7, 7, 7, 7, 7, 7, 7, 7, 7, 7, 7, 7, 7, 7, 7, 7, 7, 7, 7, 7, 7, 7, 7, 7, 7, 7, 7, 7, 7, 7, 7, 7, 7, 7, 7, 7, 7, 7, 7, 7, 7, 7, 7, 7, 7, 7, 7, 7, 7, 7, 7, 7, 7, 7, 7, 7, 7, 7, 7, 7, 7, 7, 7, 8, 8, 8, 8, 8, 8, 8, 8, 8, 8, 8, 8, 8, 8, 8, 8, 8, 8, 8, 8, 8, 8, 8, 8, 8, 8, 8, 8, 8, 8, 8, 8, 8, 8, 8, 8, 8, 8, 8, 8, 8, 8, 8, 8, 8, 8, 8, 8, 8, 8, 8, 8, 8, 8, 8, 8, 8, 8, 8, 8, 8, 8, 8, 8, 8, 8, 8, 8, 8, 8, 8, 8, 8, 8, 8, 8, 8, 8, 8, 8, 8, 8, 8, 8, 8, 8, 8, 8, 8, 8, 8, 8, 8, 8, 8, 8, 8, 8, 8, 8, 8, 8, 8, 8, 8, 8, 8, 8, 8, 8, 8, 8, 8, 8, 8, 8, 8, 8, 8, 8, 8, 8, 8, 8, 8, 8, 8, 8] : Nat) : Int))) (some ⟨[.dat tI (wrap .i64 ((wrap .i64 ((0 : Int) + (8 : Int))) + (wrap .i64 ((UInt8.toNat (List.getD [0, 1, 2, 2, 3, 3, 3, 3, 4, 4, 4, 4, 4, 4, 4, 4, 5, 5, 5, 5, 5, 5, 5, 5, 5, 5, 5, 5, 5, 5, 5, 5, 6, 6, 6, 6, 6, 6, 6, 6, 6, 6, 6, 6, 6, 6, 6, 6, 6, 6, 6, 6, 6, 6, 6, 6, 6, 6, 6, 6, 6, 6, 6, 6, 7, 7, 7, 7, 7, 7, 7, 7, 7, 7, 7, 7, 7, 7, 7, 7, 7, 7, 7, 7, 7, 7, 7, 7, 7, 7, 7, 7, 7, 7, 7, 7, 7, 7, 7, 7, 7, 7, 7, 7, 7, 7, 7, 7, 7, 7, 7, 7, 7, 7, 7, 7, 7, 7, 7, 7, 7, 7, 7, 7, 7, 7, 7, 7, 8, 8, 8, 8, 8, 8, 8, 8, 8, 8, 8, 8, 8, 8, 8, 8, 8, 8, 8, 8, 8, 8, 8, 8, 8, 8, 8, 8, 8, 8, 8, 8, 8, 8, 8, 8, 8, 8, 8, 8, 8, 8, 8, 8, 8, 8, 8, 8, 8, 8, 8, 8, 8, 8, 8, 8, 8, 8, 8, 8, 8, 8, 8, 8, 8, 8, 8, 8, 8, 8, 8, 8, 8, 8, 8, 8, 8, 8, 8, 8, 8, 8, 8, 8, 8, 8, 8, 8, 8, 8, 8, 8, 8, 8, 8, 8, 8, 8, 8, 8, 8, 8, 8, 8, 8, 8, 8, 8, 8, 8, 8, 8, 8, 8, 8, 8, 8, 8, 8, 8, 8, 8, 8, 8, 8, 8, 8, 8] (Int.toNat (wrap .u8 (Int.fdiv a0 (2 ^ (min (Int.toNat (8 : Int)) (IntKind.bits .u32)))))) 0) : Nat) : Int))))], []⟩) none) none)) (cond (decide ((0 : Int) ≤ (wrap .u8 a0))) (cond (decide ((wrap .u8 a0) < ((List.length [0, 1, 2, 2, 3, 3, 3, 3, 4, 4, 4, 4, 4, 4, 4, 4, 5, 5, 5, 5, 5, 5, 5, 5, 5, 5, 5, 5, 5, 5, 5, 5, 6, 6, 6, 6, 6, 6, 6, 6, 6, 6, 6, 6, 6, 6, 6, 6, 6, 6, 6, 6, 6, 6, 6, 6, 6, 6, 6, 6, 6, 6, 6, 6, 7, 7, 7, 7, 7, 7, 7, 7, 7, 7, 7, 7, 7, 7, 7, 7, 7, 7, 7, 7, 7, 7, 7, 7, 7, 7, 7, 7, 7, 7, 7, 7, 7, 7, 7, 7, 7, 7, 7, 7, 7, 7, 7, 7, 7, 7, 7, 7, 7, 7, 7, 7, 7, 7, 7, 7, 7, 7, 7, 7, 7, 7, 7, 7, 8, 8, 8, 8, 8, 8, 8, 8, 8, 8, 8, 8, 8, 8, 8, 8, 8, 8, 8, 8, 8, 8, 8, 8, 8, 8, 8, 8, 8, 8, 8, 8, 8, 8, 8, 8, 8, 8, 8, 8, 8, 8, 8, 8, 8, 8, 8, 8, 8, 8, 8, 8, 8, 8, 8, 8, 8, 8, 8, 8, 8, 8, 8, 8, 8, 8, 8, 8, 8, 8, 8, 8, 8, 8, 8, 8, 8, 8, 8, 8, 8, 8, 8, 8, 8, 8, 8, 8, 8, 8, 8, 8, 8, 8, 8, 8, 8, 8, 8, 8, 8, 8, 8, 8, 8, 8, 8, 8, 8, 8, 8, 8, 8, 8, 8, 8, 8, 8, 8, 8, 8, 8, 8, 8, 8, 8, 8, 8] : Nat) : Int))) (some ⟨[.dat tI (wrap .i64 ((0 : Int) + (wrap .i64 ((UInt8.toNat (List.getD [0, 1, 2, 2, 3, 3, 3, 3, 4, 4, 4, 4, 4, 4, 4, 4, 5, 5, 5, 5, 5, 5, 5, 5, 5, 5, 5, 5, 5, 5, 5, 5, 6, 6, 6, 6, 6, 6, 6, 6, 6, 6, 6, 6, 6, 6, 6, 6, 6, 6, 6, 6, 6, 6, 6, 6, 6, 6, 6, 6, 6, 6, 6, 6, 7, 7, 7, 7, 7, 7, 7, 7, 7, 7, 7, 7, 7, 7, 7, 7, 7, 7, 7, 7, 7, 7, 7, 7, 7, 7, 7, 7, 7, 7, 7, 7, 7, 7, 7, 7, 7, 7, 7, 7, 7, 7, 7, 7, 7, 7, 7, 7, 7, 7, 7, 7, 7, 7, 7, 7, 7, 7, 7, 7, 7, 7, 7, 7, 8, 8, 8, 8, 8, 8, 8, 8, 8, 8, 8, 8, 8, 8, 8, 8, 8, 8, 8, 8, 8, 8, 8, 8, 8, 8, 8, 8, 8, 8, 8, 8, 8, 8, 8, 8, 8, 8, 8, 8, 8, 8, 8, 8, 8, 8, 8, 8, 8, 8, 8, 8, 8, 8, 8, 8, 8, 8, 8, 8, 8, 8, 8, 8, 8, 8, 8, 8, 8, 8, 8, 8, 8, 8, 8, 8, 8, 8, 8, 8, 8, 8, 8, 8, 8, 8, 8, 8, 8, 8, 8, 8, 8, 8, 8, 8, 8, 8, 8, 8, 8, 8, 8, 8, 8, 8, 8, 8, 8, 8, 8, 8, 8, 8, 8, 8, 8, 8, 8, 8, 8, 8, 8, 8, 8, 8, 8, 8] (Int.toNat (wrap .u8 a0)) 0) : Nat) : Int))))], []⟩) none) none))) := (I158.run_eq _).trans (by kernel_rfl)
theorem f159_run (a0 : Int) : I159.run ⟨[.dat (.int .u64) a0], []⟩ = (cond (decide (a0 ≥ (4294967296 : Int))) (cond (decide ((32 : Int) < 0)) none (cond (decide ((Int.fdiv a0 (2 ^ (min (Int.toNat (32 : Int)) (IntKind.bits .u64)))) ≥ (65536 : Int))) (cond (decide ((16 : Int) < 0)) none (cond (decide ((Int.fdiv (Int.fdiv a0 (2 ^ (min (Int.toNat (32 : Int)) (IntKind.bits .u64)))) (2 ^ (min (Int.toNat (16 : Int)) (IntKind.bits .u64)))) ≥ (256 : Int))) (cond (decide ((8 : Int) < 0)) none (cond (decide ((0 : Int) ≤ (wrap .u8 (Int.fdiv (Int.fdiv (Int.fdiv a0 (2 ^ (min (Int.toNat (32 : Int)) (IntKind.bits .u64)))) (2 ^ (min (Int.toNat (16 : Int)) (IntKind.bits .u64)))) (2 ^ (min (Int.toNat (8 : Int)) (IntKind.bits .u64))))))) (cond (decide ((wrap .u8 (Int.fdiv (Int.fdiv (Int.fdiv a0 (2 ^ (min (Int.toNat (32 : Int)) (IntKind.bits .u64)))) (2 ^ (min (Int.toNat (16 : Int)) (IntKind.bits .u64)))) (2 ^ (min (Int.toNat (8 : Int)) (IntKind.bits .u64))))) < ((List.length [0, 1, 2, 2, 3, 3, 3, 3, 4, 4, 4, 4, 4, 4, 4, 4, 5, 5, 5, 5, 5, 5, 5, 5, 5, 5, 5, 5, 5, 5, 5, 5, 6, 6, 6, 6, 6, 6, 6, 6, 6, 6, 6, 6, 6, 6, 6, 6, 6, 6, 6, 6, 6, 6, 6, 6, 6, 6, 6, 6, 6, 6, 6, 6, 7, 7, 7, 7, 7, 7, 7, 7, 7, 7, 7, 7, 7, 7, 7, 7, 7, 7, 7, 7, 7, 7, 7, 7, 7, 7, 7, 7, 7, 7, 7, 7, 7, 7, 7, 7, 7, 7, 7, 7, 7, 7, 7, 7, 7, 7, 7, 7, 7, 7, 7, 7, 7, 7, 7, 7, 7, 7, 7, 7, 7, 7, 7, 7, 8, 8, 8, 8, 8, 8, 8, 8, 8, 8, 8, 8, 8, 8, 8, 8, 8, 8, 8, 8, 8, 8, 8, 8, 8, 8, 8, 8, 8, 8, 8, 8, 8, 8, 8, 8, 8, 8, 8, 8, 8, 8, 8, 8, 8, 8, 8, 8, 8, 8, 8, 8, 8, 8, 8, 8, 8, 8, 8, 8, 8, 8, 8, 8, 8, 8, 8, 8, 8, 8, 8, 8, 8, 8, 8, 8, 8, 8, 8, 8, 8, 8, 8, 8, 8, 8, 8, 8, 8, 8, 8, 8, 8, 8, 8, 8, 8, 8, 8, 8, 8, 8, 8, 8, 8, 8, 8, 8, 8, 8, 8, 8, 8, 8, 8, 8, 8, 8, 8, 8, 8, 8, 8, 8, 8, 8, 8, 8] : Nat) : Int))) (some ⟨[.dat tI (wrap .i64 ((wrap .i64 ((wrap .i64 ((32 : Int) + (16 : Int))) + (8 : Int))) + (wrap .i64 ((UInt8.toNat (List.getD [0, 1, 2, 2, 3, 3, 3, 3, 4, 4, 4, 4, 4, 4, 4, 4, 5, 5, 5, 5, 5, 5, 5, 5, 5, 5, 5, 5, 5, 5, 5, 5, 6, 6, 6, 6, 6, 6, 6, 6, 6, 6, 6, 6, 6, 6, 6, 6, 6, 6, 6, 6, 6, 6, 6, 6, 6, 6, 6, 6, 6, 6, 6, 6, 7, 7, 7, 7, 7, 7, 7, 7, 7, 7, 7, 7, 7, 7, 7, 7, 7, 7, 7, 7, 7, 7, 7, 7, 7, 7, 7, 7, 7, 7, 7, 7, 7, 7, 7, 7, 7, 7, 7, 7, 7, 7, 7, 7, 7, 7, 7, 7, 7, 7, 7, 7, 7, 7, 7, 7, 7, 7, 7, 7, 7, 7, 7, 7, 8, 8, 8, 8, 8, 8, 8, 8, 8, 8, 8, 8, 8, 8, 8, 8, 8, 8, 8, 8, 8, 8, 8, 8, 8, 8, 8, 8, 8, 8, 8, 8, 8, 8, 8, 8, 8, 8, 8, 8, 8, 8, 8, 8, 8, 8, 8, 8, 8, 8, 8, 8, 8, 8, 8, 8, 8, 8, 8, 8, 8, 8, 8, 8, 8, 8, 8, 8, 8, 8, 8, 8, 8, 8, 8, 8, 8, 8, 8, 8, 8, 8, 8, 8, 8, 8, 8, 8, 8, 8, 8, 8, 8, 8, 8, 8, 8, 8, 8, 8, 8, 8, 8, 8, 8, 8, 8, 8, 8, 8, 8, 8, 8, 8, 8, 8, 8, 8, 8, 8, 8, 8, 8, 8, 8, 8, 8, 8] (Int.toNat (wrap .u8 (Int.fdiv (Int.fdiv (Int.fdiv a0 (2 ^ (min (Int.toNat (32 : Int)) (IntKind.bits .u64)))) (2 ^ (min (Int.toNat (16 : Int)) (IntKind.bits .u64)))) (2 ^ (min (Int.toNat (8 : Int)) (IntKind.bits .u64)))))) 0) : Nat) : Int))))], []⟩) none) none)) (cond (decide ((0 : Int) ≤ (wrap .u8 (Int.fdiv (Int.fdiv a0 (2 ^ (min (Int.toNat (32 : Int)) (IntKind.bits .u64)))) (2 ^ (min (Int.toNat (16 : Int)) (IntKind.bits .u64))))))) (cond (decide ((wrap .u8 (Int.fdiv (Int.fdiv a0 (2 ^ (min (Int.toNat (32 : Int)) (IntKind.bits .u64)))) (2 ^ (min (Int.toNat (16 : Int)) (IntKind.bits .u64))))) < ((List.length [0, 1, 2, 2, 3, 3, 3, 3, 4, 4, 4, 4, 4, 4, 4, 4, 5, 5, 5, 5, 5, 5, 5, 5, 5, 5, 5, 5, 5, 5, 5, 5, 6, 6, 6, 6, 6, 6, 6, 6, 6, 6, 6, 6, 6, 6, 6, 6, 6, 6, 6, 6, 6, 6, 6, 6, 6, 6, 6, 6, 6, 6, 6, 6, 7, 7, 7, 7, 7, 7, 7, 7, 7, 7, 7, 7, 7, 7, 7, 7, 7, 7, 7, 7, 7, 7, 7, 7, 7, 7, 7, 7, 7, 7, 7, 7, 7, 7, 7, 7, 7, 7, 7, 7, 7, 7, 7, 7, 7, 7, 7, 7, 7, 7, 7, 7, 7, 7, 7, 7, 7, 7, 7, 7, 7, 7, 7, 7, 8, 8, 8, 8, 8, 8, 8, 8, 8, 8, 8, 8, 8, 8, 8, 8, 8, 8, 8, 8, 8, 8, 8, 8, 8, 8, 8, 8, 8, 8, 8, 8, 8, 8, 8, 8, 8, 8, 8, 8, 8, 8, 8, 8, 8, 8, 8, 8, 8, 8, 8, 8, 8, 8, 8, 8, 8, 8, 8, 8, 8, 8, 8, 8, 8, 8, 8, 8, 8, 8, 8, 8, 8, 8, 8, 8, 8, 8, 8, 8, 8, 8, 8, 8, 8, 8, 8, 8, 8, 8, 8, 8, 8, 8, 8, 8, 8, 8, 8, 8, 8, 8, 8, 8, 8, 8, 8, 8, 8, 8, 8, 8, 8, 8, 8, 8, 8, 8, 8, 8, 8, 8, 8, 8, 8, 8, 8, 8] : Nat) : Int))) (some ⟨[.dat tI (wrap .i64 ((wrap .i64 ((32 : Int) + (16 : Int))) + (wrap .i64 ((UInt8.toNat (List.getD [0, 1, 2, 2, 3, 3, 3, 3, 4, 4, 4, 4, 4, 4, 4, 4, 5, 5, 5, 5, 5, 5, 5, 5, 5, 5, 5, 5, 5, 5, 5, 5, 6, 6, 6, 6, 6, 6, 6, 6, 6, 6, 6, 6, 6, 6, 6, 6, 6, 6, 6, 6, 6, 6, 6, 6, 6, 6, 6, 6, 6, 6, 6, 6, 7, 7, 7, 7, 7, 7, 7, 7, 7, 7, 7, 7, 7, 7, 7, 7, 7, 7, 7, 7, 7, 7, 7, 7, 7, 7, 7, 7, 7, 7, 7, 7, 7, 7, 7, 7, 7, 7, 7, 7, 7, 7, 7, 7, 7, 7, 7, 7, 7, 7, 7, 7, 7, 7, 7, 7, 7, 7, 7, 7, 7, 7, 7, 7, 8, 8, 8, 8, 8, 8, 8, 8, 8, 8, 8, 8, 8, 8, 8, 8, 8, 8, 8, 8, 8, 8, 8, 8, 8, 8, 8, 8, 8, 8, 8, 8, 8, 8, 8, 8, 8, 8, 8, 8, 8, 8, 8, 8, 8, 8, 8, 8, 8, 8, 8, 8, 8, 8, 8, 8, 8, 8, 8, 8, 8, 8, 8, 8, 8, 8, 8, 8, 8, 8, 8, 8, 8, 8, 8, 8, 8, 8, 8, 8, 8, 8, 8, 8, 8, 8, 8, 8, 8, 8, 8, 8, 8, 8, 8, 8, 8, 8, 8, 8, 8, 8, 8, 8, 8, 8, 8, 8, 8, 8, 8, 8, 8, 8, 8, 8, 8, 8, 8, 8, 8, 8, 8, 8, 8, 8, 8, 8] (Int.toNat (wrap .u8 (Int.fdiv (Int.fdiv a0 (2 ^ (min (Int.toNat (32 : Int)) (IntKind.bits .u64)))) (2 ^ (min (Int.toNat (16 : Int)) (IntKind.bits .u64)))))) 0) : Nat) : Int))))], []⟩) none) none))) (cond (decide ((Int.fdiv a0 (2 ^ (min (Int.toNat (32 : Int)) (IntKind.bits .u64)))) ≥ (256 : Int))) (cond (decide ((8 : Int) < 0)) none (cond (decide ((0 : Int) ≤ (wrap .u8 (Int.fdiv (Int.fdiv a0 (2 ^ (min (Int.toNat (32 : Int)) (IntKind.bits .u64)))) (2 ^ (min (Int.toNat (8 : Int)) (IntKind.bits .u64))))))) (cond (decide ((wrap .u8 (Int.fdiv (Int.fdiv a0 (2 ^ (min (Int.toNat (32 : Int)) (IntKind.bits .u64)))) (2 ^ (min (Int.toNat (8 : Int)) (IntKind.bits .u64))))) < ((List.length [0, 1, 2, 2, 3, 3, 3, 3, 4, 4, 4, 4, 4, 4, 4, 4, 5, 5, 5, 5, 5, 5, 5, 5, 5, 5, 5, 5, 5, 5, 5, 5, 6, 6, 6, 6, 6, 6, 6, 6, 6, 6, 6, 6, 6, 6, 6, 6, 6, 6, 6, 6, 6, 6, 6, 6, 6, 6, 6, 6, 6, 6, 6, 6, 7, 7, 7, 7, 7, 7, 7, 7, 7, 7, 7, 7, 7, 7, 7, 7, 7, 7, 7, 7, 7, 7, 7, 7, 7, 7, 7, 7, 7, 7, 7, 7, 7, 7, 7, 7, 7, 7, 7, 7, 7, 7, 7, 7, 7, 7, 7, 7, 7, 7, 7, 7, 7, 7, 7, 7, 7, 7, 7, 7, 7, 7, 7, 7, 8, 8, 8, 8, 8, 8, 8, 8, 8, 8, 8, 8, 8, 8, 8, 8, 8, 8, 8, 8, 8, 8, 8, 8, 8, 8, 8, 8, 8, 8, 8, 8, 8, 8, 8, 8, 8, 8, 8, 8, 8, 8, 8, 8, 8, 8, 8, 8, 8, 8, 8, 8, 8, 8, 8, 8, 8, 8, 8, 8, 8, 8, 8, 8, 8, 8, 8, 8, 8, 8, 8, 8, 8, 8, 8, 8, 8, 8, 8, 8, 8, 8, 8, 8, 8, 8, 8, 8, 8, 8, 8, 8, 8, 8, 8, 8, 8, 8, 8, 8, 8, 8, 8, 8, 8, 8, 8, 8, 8, 8, 8, 8, 8, 8, 8, 8, 8, 8, 8, 8, 8, 8, 8, 8, 8, 8, 8, 8] : Nat) : Int))) (some ⟨[.dat tI (wrap .i64 ((wrap .i64 ((32 : Int) + (8 : Int))) + (wrap .i64 ((UInt8.toNat (List.getD [0, 1, 2, 2, 3, 3, 3, 3, 4, 4, 4, 4, 4, 4, 4, 4, 5, 5, 5, 5, 5, 5, 5, 5, 5, 5, 5, 5, 5, 5, 5, 5, 6, 6, 6, 6, 6, 6, 6, 6, 6, 6, 6, 6, 6, 6, 6, 6, 6, 6, 6, 6, 6, 6, 6, 6, 6, 6, 6, 6, 6, 6, 6, 6, 7, 7, 7, 7, 7, 7, 7, 7, 7, 7, 7, 7, 7, 7, 7, 7, 7, 7, 7, 7, 7, 7, 7, 7, 7, 7, 7, 7, 7, 7, 7, 7, 7, 7, 7, 7, 7, 7, 7, 7, 7, 7, 7, 7, 7, 7, 7, 7, 7, 7, 7, 7, 7, 7, 7, 7, 7, 7, 7, 7, 7, 7, 7, 7, 8, 8, 8, 8, 8, 8, 8, 8, 8, 8, 8, 8, 8, 8, 8, 8, 8, 8, 8, 8, 8, 8, 8, 8, 8, 8, 8, 8, 8, 8, 8, 8, 8, 8, 8, 8, 8, 8, 8, 8, 8, 8, 8, 8, 8, 8, 8, 8, 8, 8, 8, 8, 8, 8, 8, 8, 8, 8, 8, 8, 8, 8, 8, 8, 8, 8, 8, 8, 8, 8, 8, 8, 8, 8, 8, 8, 8, 8, 8, 8, 8, 8, 8, 8, 8, 8, 8, 8, 8, 8, 8, 8, 8, 8, 8, 8, 8, 8, 8, 8, 8, 8, 8, 8, 8, 8, 8, 8, 8, 8, 8, 8, 8, 8, 8, 8, 8, 8, 8, 8, 8, 8, 8, 8, 8, 8, 8, 8] (Int.toNat (wrap .u8 (Int.fdiv (Int.fdiv a0 (2 ^ (min (Int.toNat (32 : Int)) (IntKind.bits .u64)))) (2 ^ (min (Int.toNat (8 : Int)) (IntKind.bits .u64)))))) 0) : Nat) : Int))))], []⟩) none) none)) (cond (decide ((0 : Int) ≤ (wrap .u8 (Int.fdiv a0 (2 ^ (min (Int.toNat (32 : Int)) (IntKind.bits .u64))))))) (cond (decide ((wrap .u8 (Int.fdiv a0 (2 ^ (min (Int.toNat (32 : Int)) (IntKind.bits .u64))))) < ((List.length [0, 1, 2, 2, 3, 3, 3, 3, 4, 4, 4, 4, 4, 4, 4, 4, 5, 5, 5, 5, 5, 5, 5, 5, 5, 5, 5, 5, 5, 5, 5, 5, 6, 6, 6, 6, 6, 6, 6, 6, 6, 6, 6, 6, 6, 6, 6, 6, 6, 6, 6, 6, 6, 6, 6, 6, 6, 6, 6, 6, 6, 6, 6, 6, 7, 7, 7, 7, 7, 7, 7, 7, 7, 7, 7, 7, 7, 7, 7, 7, 7, 7, 7, 7, 7, 7, 7, 7, 7, 7, 7, 7, 7, 7, 7, 7, 7, 7, 7, 7, 7, 7, 7, 7, 7, 7, 7, 7, 7, 7, 7, 7, 7, 7, 7, 7, 7, 7, 7, 7, 7, 7, 7, 7, 7, 7, 7, 7, 8, 8, 8, 8, 8, 8, 8, 8, 8, 8, 8, 8, 8, 8, 8, 8, 8, 8, 8, 8, 8, 8, 8, 8, 8, 8, 8, 8, 8, 8, 8, 8, 8, 8, 8, 8, 8, 8, 8, 8, 8, 8, 8, 8, 8, 8, 8, 8, 8, 8, 8, 8, 8, 8, 8, 8, 8, 8, 8, 8, 8, 8, 8, 8, 8, 8, 8, 8, 8, 8, 8, 8, 8, 8, 8, 8, 8, 8, 8, 8, 8, 8, 8, 8, 8, 8, 8, 8, 8, 8, 8, 8, 8, 8, 8, 8, 8, 8, 8, 8, 8, 8, 8, 8, 8, 8, 8, 8, 8, 8, 8, 8, 8, 8, 8, 8, 8, 8, 8, 8, 8, 8, 8, 8, 8, 8, 8, 8] : Nat) : Int))) (some ⟨[.dat tI (wrap .i64 ((32 : Int) + (wrap .i64 ((UInt8.toNat (List.getD [0, 1, 2, 2, 3, 3, 3, 3, 4, 4, 4, 4, 4, 4, 4, 4, 5, 5, 5, 5, 5, 5, 5, 5, 5, 5, 5, 5, 5, 5, 5, 5, 6, 6, 6, 6, 6, 6, 6, 6, 6, 6, 6, 6, 6, 6, 6, 6, 6, 6, 6, 6, 6, 6, 6, 6, 6, 6, 6, 6, 6, 6, 6, 6, 7, 7, 7, 7, 7, 7, 7, 7, 7, 7, 7, 7, 7, 7, 7, 7, 7, 7, 7, 7, 7, 7, 7, 7, 7, 7, 7, 7, 7, 7, 7, 7, 7, 7, 7, 7, 7, 7, 7, 7, 7, 7, 7, 7, 7, 7, 7, 7, 7, 7, 7, 7, 7, 7, 7, 7, 7, 7, 7, 7, 7, 7, 7, 7, 8, 8, 8, 8, 8, 8, 8, 8, 8, 8, 8, 8, 8, 8, 8, 8, 8, 8, 8, 8, 8, 8, 8, 8, 8, 8, 8, 8, 8, 8, 8, 8, 8, 8, 8, 8, 8, 8, 8, 8, 8, 8, 8, 8, 8, 8, 8, 8, 8, 8, 8, 8, 8, 8, 8, 8, 8, 8, 8, 8, 8, 8, 8, 8, 8, 8, 8, 8, 8, 8, 8, 8, 8, 8, 8, 8, 8, 8, 8, 8, 8, 8, 8, 8, 8, 8, 8, 8, 8, 8, 8, 8, 8, 8, 8, 8, 8, 8, 8, 8, 8, 8, 8, 8, 8, 8, 8, 8, 8, 8, 8, 8, 8, 8, 8, 8, 8, 8, 8, 8, 8, 8, 8, 8, 8, 8, 8, 8] (Int.toNat (wrap .u8 (Int.fdiv a0 (2 ^ (min (Int.toNat (32 : Int)) (IntKind.bits .u64)))))) 0) : Nat) : Int))))], []⟩) none) none)))) (cond (decide (a0 ≥ (65536 : Int))) (cond (decide ((16 : Int) < 0)) none (cond (decide ((Int.fdiv a0 (2 ^ (min (Int.toNat (16 : Int)) (IntKind.bits .u64)))) ≥ (256 : Int))) (cond (decide ((8 : Int) < 0)) none (cond (decide ((0 : Int) ≤ (wrap .u8 (Int.fdiv (Int.fdiv a0 (2 ^ (min (Int.toNat (16 : Int)) (IntKind.bits .u64)))) (2 ^ (min (Int.toNat (8 : Int)) (IntKind.bits .u64))))))) (cond (decide ((wrap .u8 (Int.fdiv (Int.fdiv a0 (2 ^ (min (Int.toNat (16 : Int)) (IntKind.bits .u64)))) (2 ^ (min (Int.toNat (8 : Int)) (IntKind.bits .u64))))) < ((List.length [0, 1, 2, 2, 3, 3, 3, 3, 4, 4, 4, 4, 4, 4, 4, 4, 5, 5, 5, 5, 5, 5, 5, 5, 5, 5, 5, 5, 5, 5, 5, 5, 6, 6, 6, 6, 6, 6, 6, 6, 6, 6, 6, 6, 6, 6, 6, 6, 6, 6, 6, 6, 6, 6, 6, 6, 6, 6, 6, 6, 6, 6, 6, 6, 7, 7, 7, 7, 7, 7, 7, 7, 7, 7, 7, 7, 7, 7, 7, 7, 7, 7, 7, 7, 7, 7, 7, 7, 7, 7, 7, 7, 7, 7, 7, 7, 7, 7, 7, 7, 7, 7, 7, 7, 7, 7, 7, 7, 7, 7, 7, 7, 7, 7, 7, 7, 7, 7, 7, 7, 7, 7, 7, 7, 7, 7, 7, 7, 8, 8, 8, 8, 8, 8, 8, 8, 8, 8, 8, 8, 8, 8, 8, 8, 8, 8, 8, 8, 8, 8, 8, 8, 8, 8, 8, 8, 8, 8, 8, 8, 8, 8, 8, 8, 8, 8, 8, 8, 8, 8, 8, 8, 8, 8, 8, 8, 8, 8, 8, 8, 8, 8, 8, 8, 8, 8, 8, 8, 8, 8, 8, 8, 8, 8, 8, 8, 8, 8, 8, 8, 8, 8, 8, 8, 8, 8, 8, 8, 8, 8, 8, 8, 8, 8, 8, 8, 8, 8, 8, 8, 8, 8, 8, 8, 8, 8, 8, 8, 8, 8, 8, 8, 8, 8, 8, 8, 8, 8, 8, 8, 8, 8, 8, 8, 8, 8, 8, 8, 8, 8, 8, 8, 8, 8, 8, 8] : Nat) : Int))) (some ⟨[.dat tI (wrap .i64 ((wrap .i64 ((wrap .i64 ((0 : Int) + (16 : Int))) + (8 : Int))) + (wrap .i64 ((UInt8.toNat (List.getD [0, 1, 2, 2, 3, 3, 3, 3, 4, 4, 4, 4, 4, 4, 4, 4, 5, 5, 5, 5, 5, 5, 5, 5, 5, 5, 5, 5, 5, 5, 5, 5, 6, 6, 6, 6, 6, 6, 6, 6, 6, 6, 6, 6, 6, 6, 6, 6, 6, 6, 6, 6, 6, 6, 6, 6, 6, 6, 6, 6, 6, 6, 6, 6, 7, 7, 7, 7, 7, 7, 7, 7, 7, 7, 7, 7, 7, 7, 7, 7, 7, 7, 7, 7, 7, 7, 7, 7, 7, 7, 7, 7, 7, 7, 7, 7, 7, 7, 7, 7, 7, 7, 7, 7, 7, 7, 7, 7, 7, 7, 7, 7, 7, 7, 7, 7, 7, 7, 7, 7, 7, 7, 7, 7, 7, 7, 7, 7, 8, 8, 8, 8, 8, 8, 8, 8, 8, 8, 8, 8, 8, 8, 8, 8, 8, 8, 8, 8, 8, 8, 8, 8, 8, 8, 8, 8, 8, 8, 8, 8, 8, 8, 8, 8, 8, 8, 8, 8, 8, 8, 8, 8, 8, 8, 8, 8, 8, 8, 8, 8, 8, 8, 8, 8, 8, 8, 8, 8, 8, 8, 8, 8, 8, 8, 8, 8, 8, 8, 8, 8, 8, 8, 8, 8, 8, 8, 8, 8, 8, 8, 8, 8, 8, 8, 8, 8, 8, 8, 8, 8, 8, 8, 8, 8, 8, 8, 8, 8, 8, 8, 8, 8, 8, 8, 8, 8, 8, 8, 8, 8, 8, 8, 8, 8, 8, 8, 8, 8, 8, 8, 8, 8, 8, 8, 8, 8] (Int.toNat (wrap .u8 (Int.fdiv (Int.fdiv a0 (2 ^ (min (Int.toNat (16 : Int)) (IntKind.bits .u64)))) (2 ^ (min (Int.toNat (8 : Int)) (IntKind.bits .u64)))))) 0) : Nat) : Int))))], []⟩) none) none)) (cond (decide ((0 : Int) ≤ (wrap .u8 (Int.fdiv a0 (2 ^ (min (Int.toNat (16 : Int)) (IntKind.bits .u64))))))) (cond (decide ((wrap .u8 (Int.fdiv a0 (2 ^ (min (Int.toNat (16 : Int)) (IntKind.bits .u64))))) < ((List.length [0, 1, 2, 2, 3, 3, 3, 3, 4, 4, 4, 4, 4, 4, 4, 4, 5, 5, 5, 5, 5, 5, 5, 5, 5, 5, 5, 5, 5, 5, 5, 5, 6, 6, 6, 6, 6, 6, 6, 6, 6, 6, 6, 6, 6, 6, 6, 6, 6, 6, 6, 6, 6, 6, 6, 6, 6, 6, 6, 6, 6, 6, 6, 6, 7, 7, 7, 7, 7, 7, 7, 7, 7, 7, 7, 7, 7, 7, 7, 7, 7, 7, 7, 7, 7, 7, 7, 7, 7, 7, 7, 7, 7, 7, 7, 7, 7, 7, 7, 7, 7, 7, 7, 7, 7, 7, 7, 7, 7, 7, 7, 7, 7, 7, 7, 7, 7, 7, 7, 7, 7, 7, 7, 7, 7, 7, 7, 7, 8, 8, 8, 8, 8, 8, 8, 8, 8, 8, 8, 8, 8, 8, 8, 8, 8, 8, 8, 8, 8, 8, 8, 8, 8, 8, 8, 8, 8, 8, 8, 8, 8, 8, 8, 8, 8, 8, 8, 8, 8, 8, 8, 8, 8, 8, 8, 8, 8, 8, 8, 8, 8, 8, 8, 8, 8, 8, 8, 8, 8, 8, 8, 8, 8, 8, 8, 8, 8, 8, 8, 8, 8, 8, 8, 8, 8, 8, 8, 8, 8, 8, 8, 8, 8, 8, 8, 8, 8, 8, 8, 8, 8, 8, 8, 8, 8, 8, 8, 8, 8, 8, 8, 8, 8, 8, 8, 8, 8, 8, 8, 8, 8, 8, 8, 8, 8, 8, 8, 8, 8, 8, 8, 8, 8, 8, 8, 8] : Nat) : Int))) (some ⟨[.dat tI (wrap .i64 ((wrap .i64 ((0 : Int) + (16 : Int))) + (wrap .i64 ((UInt8.toNat (List.getD [0, 1, 2, 2, 3, 3, 3, 3, 4, 4, 4, 4, 4, 4, 4, 4, 5, 5, 5, 5, 5, 5, 5, 5, 5, 5, 5, 5, 5, 5, 5, 5, 6, 6, 6, 6, 6, 6, 6, 6, 6, 6, 6, 6, 6, 6, 6, 6, 6, 6, 6, 6, 6, 6, 6, 6, 6, 6, 6, 6, 6, 6, 6, 6, 7, 7, 7, 7, 7, 7, 7, 7, 7, 7, 7, 7, 7, 7, 7, 7, 7, 7, 7, 7, 7, 7, 7, 7, 7, 7, 7, 7, 7, 7, 7, 7, 7, 7, 7, 7, 7, 7, 7, 7, 7, 7, 7, 7, 7, 7, 7, 7, 7, 7, 7, 7, 7, 7, 7, 7, 7, 7, 7, 7, 7, 7, 7, 7, 8, 8, 8, 8, 8, 8, 8, 8, 8, 8, 8, 8, 8, 8, 8, 8, 8, 8, 8, 8, 8, 8, 8, 8, 8, 8, 8, 8, 8, 8, 8, 8, 8, 8, 8, 8, 8, 8, 8, 8, 8, 8, 8, 8, 8, 8, 8, 8, 8, 8, 8, 8, 8, 8, 8, 8, 8, 8, 8, 8, 8, 8, 8, 8, 8, 8, 8, 8, 8, 8, 8, 8, 8, 8, 8, 8, 8, 8, 8, 8, 8, 8, 8, 8, 8, 8, 8, 8, 8, 8, 8, 8, 8, 8, 8, 8, 8, 8, 8, 8, 8, 8, 8, 8, 8, 8, 8, 8, 8, 8, 8, 8, 8, 8, 8, 8, 8, 8, 8, 8, 8, 8, 8, 8, 8, 8, 8, 8] (Int.toNat (wrap .u8 (Int.fdiv a0 (2 ^ (min (Int.toNat (16 : Int)) (IntKind.bits .u64)))))) 0) : Nat) : Int))))], []⟩) none) none))) (cond (decide (a0 ≥ (256 : Int))) (cond (decide ((8 : Int) < 0)) none (cond (decide ((0 : Int) ≤ (wrap .u8 (Int.fdiv a0 (2 ^ (min (Int.toNat (8 : Int)) (IntKind.bits .u64))))))) (cond (decide ((wrap .u8 (Int.fdiv a0 (2 ^ (min (Int.toNat (8 : Int)) (IntKind.bits .u64))))) < ((List.length [0, 1, 2, 2, 3, 3, 3, 3, 4, 4, 4, 4, 4, 4, 4, 4, 5, 5, 5, 5, 5, 5, 5, 5, 5, 5, 5, 5, 5, 5, 5, 5, 6, 6, 6, 6, 6, 6, 6, 6, 6, 6, 6, 6, 6, 6, 6, 6, 6, 6, 6, 6, 6, 6, 6, 6, 6, 6, 6, 6, 6, 6, 6, 6, 7, 7, 7, 7, 7, 7, 7, 7, 7, 7, 7, 7, 7, 7, 7, 7, 7, 7, 7, 7, 7, 7, 7, 7, 7, 7, 7, 7, 7, 7, 7, 7, 7, 7, 7, 7, 7, 7, 7, 7, 7, 7, 7, 7, 7, 7, 7, 7, 7, 7, 7, 7, 7, 7, 7, 7, 7, 7, 7, 7, 7, 7, 7, 7, 8, 8, 8, 8, 8, 8, 8, 8, 8, 8, 8, 8, 8, 8, 8, 8, 8, 8, 8, 8, 8, 8, 8, 8, 8, 8, 8, 8, 8, 8, 8, 8, 8, 8, 8, 8, 8, 8, 8, 8, 8, 8, 8, 8, 8, 8, 8, 8, 8, 8, 8, 8, 8, 8, 8, 8, 8, 8, 8, 8, 8, 8, 8, 8, 8, 8, 8, 8, 8, 8, 8, 8, 8, 8, 8, 8, 8, 8, 8, 8, 8, 8, 8, 8, 8, 8, 8, 8, 8, 8, 8, 8, 8, 8, 8, 8, 8, 8, 8, 8, 8, 8, 8, 8, 8, 8, 8, 8, 8, 8, 8, 8, 8, 8, 8, 8, 8, 8, 8, 8, 8, 8, 8, 8, 8, 8, 8, 8] : Nat) : Int))) (some ⟨[.dat tI (wrap .i64 ((wrap .i64 ((0 : Int) + (8 : Int))) + (wrap .i64 ((UInt8.toNat (List.getD [0, 1, 2, 2, 3, 3, 3, 3, 4, 4, 4, 4, 4, 4, 4, 4, 5, 5, 5, 5, 5, 5, 5, 5, 5, 5, 5, 5, 5, 5, 5, 5, 6, 6, 6, 6, 6, 6, 6, 6, 6, 6, 6, 6, 6, 6, 6, 6, 6, 6, 6, 6, 6, 6, 6, 6, 6, 6, 6, 6, 6, 6, 6, 6, 7, 7, 7, 7, 7, 7, 7, 7, 7, 7, 7, 7, 7, 7, 7, 7, 7, 7, 7, 7, 7, 7, 7, 7, 7, 7, 7, 7, 7, 7, 7, 7, 7, 7, 7, 7, 7, 7, 7, 7, 7, 7, 7, 7, 7, 7, 7, 7, 7, 7, 7, 7, 7, 7, 7, 7, 7, 7, 7, 7, 7, 7, 7, 7, 8, 8, 8, 8, 8, 8, 8, 8, 8, 8, 8, 8, 8, 8, 8, 8, 8, 8, 8, 8, 8, 8, 8, 8, 8, 8, 8, 8, 8, 8, 8, 8, 8, 8, 8, 8, 8, 8, 8, 8, 8, 8, 8, 8, 8, 8, 8, 8, 8, 8, 8, 8, 8, 8, 8, 8, 8, 8, 8, 8, 8, 8, 8, 8, 8, 8, 8, 8, 8, 8, 8, 8, 8, 8, 8, 8, 8, 8, 8, 8, 8, 8, 8, 8, 8, 8, 8, 8, 8, 8, 8, 8, 8, 8, 8, 8, 8, 8, 8, 8, 8, 8, 8, 8, 8, 8, 8, 8, 8, 8, 8, 8, 8, 8, 8, 8, 8, 8, 8, 8, 8, 8, 8, 8, 8, 8, 8, 8] (Int.toNat (wrap .u8 (Int.fdiv a0 (2 ^ (min (Int.toNat (8 : Int)) (IntKind.bits .u64)))))) 0) : Nat) : Int))))], []⟩) none) none)) (cond (decide ((0 : Int) ≤ (wrap .u8 a0))) (cond (decide ((wrap .u8 a0) < ((List.length [0, 1, 2, 2, 3, 3, 3, 3, 4, 4, 4, 4, 4, 4, 4, 4, 5, 5, 5, 5, 5, 5, 5, 5, 5, 5, 5, 5, 5, 5, 5, 5, 6, 6, 6, 6, 6, 6, 6, 6, 6, 6, 6, 6, 6, 6, 6, 6, 6, 6, 6, 6, 6, 6, 6, 6, 6, 6, 6, 6, 6, 6, 6, 6, 7, 7, 7, 7, 7, 7, 7, 7, 7, 7, 7, 7, 7, 7, 7, 7, 7, 7, 7, 7, 7, 7, 7, 7, 7, 7, 7, 7, 7, 7, 7, 7, 7, 7, 7, 7, 7, 7, 7, 7, 7, 7, 7, 7, 7, 7, 7, 7, 7, 7, 7, 7, 7, 7, 7, 7, 7, 7, 7, 7, 7, 7, 7, 7, 8, 8, 8, 8, 8, 8, 8, 8, 8, 8, 8, 8, 8, 8, 8, 8, 8, 8, 8, 8, 8, 8, 8, 8, 8, 8, 8, 8, 8, 8, 8, 8, 8, 8, 8, 8, 8, 8, 8, 8, 8, 8, 8, 8, 8, 8, 8, 8, 8, 8, 8, 8, 8, 8, 8, 8, 8, 8, 8, 8, 8, 8, 8, 8, 8, 8, 8, 8, 8, 8, 8, 8, 8, 8, 8, 8, 8, 8, 8, 8, 8, 8, 8, 8, 8, 8, 8, 8, 8, 8, 8, 8, 8, 8, 8, 8, 8, 8, 8, 8, 8, 8, 8, 8, 8, 8, 8, 8, 8, 8, 8, 8, 8, 8, 8, 8, 8, 8, 8, 8, 8, 8, 8, 8, 8, 8, 8, 8] : Nat) : Int))) (some ⟨[.dat tI (wrap .i64 ((0 : Int) + (wrap .i64 ((UInt8.toNat (List.getD [0, 1, 2, 2, 3, 3, 3, 3, 4, 4, 4, 4, 4, 4, 4, 4, 5, 5, 5, 5, 5, 5, 5, 5, 5, 5, 5, 5, 5, 5, 5, 5, 6, 6, 6, 6, 6, 6, 6, 6, 6, 6, 6, 6, 6, 6, 6, 6, 6, 6, 6, 6, 6, 6, 6, 6, 6, 6, 6, 6, 6, 6, 6, 6, 7, 7, 7, 7, 7, 7, 7, 7, 7, 7, 7, 7, 7, 7, 7, 7, 7, 7, 7, 7, 7, 7, 7, 7, 7, 7, 7, 7, 7, 7, 7, 7, 7, 7, 7, 7, 7, 7, 7, 7, 7, 7, 7, 7, 7, 7, 7, 7, 7, 7, 7, 7, 7, 7, 7, 7, 7, 7, 7, 7, 7, 7, 7, 7, 8, 8, 8, 8, 8, 8, 8, 8, 8, 8, 8, 8, 8, 8, 8, 8, 8, 8, 8, 8, 8, 8, 8, 8, 8, 8, 8, 8, 8, 8, 8, 8, 8, 8, 8, 8, 8, 8, 8, 8, 8, 8, 8, 8, 8, 8, 8, 8, 8, 8, 8, 8, 8, 8, 8, 8, 8, 8, 8, 8, 8, 8, 8, 8, 8, 8, 8, 8, 8, 8, 8, 8, 8, 8, 8, 8, 8, 8, 8, 8, 8, 8, 8, 8, 8, 8, 8, 8, 8, 8, 8, 8, 8, 8, 8, 8, 8, 8, 8, 8, 8, 8, 8, 8, 8, 8, 8, 8, 8, 8, 8, 8, 8, 8, 8, 8, 8, 8, 8, 8, 8, 8, 8, 8, 8, 8, 8, 8] (Int.toNat (wrap .u8 a0)) 0) : Nat) : Int))))], []⟩) none) none)))) := (I159.run_eq _).trans (by kernel_rfl)
theorem f132_run (a0 : Int) : I132.run ⟨[.dat (.int .u64) a0], []⟩ = (cond (t159_ok a0) (some ⟨[.dat tI (t159_0 a0)], []⟩) none) := (I132.run_eq _).trans (by kernel_rfl)
theorem f160_run (a0 : Int) : I160.run ⟨[.dat tI a0], []⟩ = (some ⟨[.dat .bool (a0 != a0)], []⟩) := (I160.run_eq _).trans (by kernel_rfl)
theorem f183_run (a0 : Int) (a1 : Int) : I183.run ⟨[.dat tI a0, .dat tI a1], []⟩ = (cond (t160_0 a0) (cond (!(t160_0 a1)) (some ⟨[.dat .bool true], []⟩) (some ⟨[.dat .bool (decide (a0 < a1))], []⟩)) (some ⟨[.dat .bool (decide (a0 < a1))], []⟩)) := (I183.run_eq _).trans (by kernel_rfl)
noncomputable def f177h0 (x0 : Int) (x1 : Int) (x2 : Int) (x3 : (List Int)) : Option Fr := I177.hd 0 (mkF 49 [(0, .slc 0), (1, .dat tI x0), (2, .dat tI x1), (6, .dat tI x2)] [(0, .arr tI x3)])
noncomputable def f177h2 (x0 : Int) (x1 : Int) (x2 : Int) (x3 : Int) (x4 : (List Int)) : Option Fr := I177.hd 2 (mkF 49 [(0, .slc 0), (1, .dat tI x0), (2, .dat tI x1), (6, .dat tI x2), (7, .dat tI x3)] [(0, .arr tI x4)])
theorem f177_run (a : Int) (b : Int) (a0 : (List Int)) : I177.run ⟨[.slc 0, .dat tI a, .dat tI b], [(0, .arr tI a0)]⟩ = (f177h0 a b (wrap .i64 (a + (1 : Int))) a0) := (I177.run_eq _).trans (by kernel_rfl)
theorem f177h0_eq (x0 : Int) (x1 : Int) (x2 : Int) (x3 : (List Int)) : f177h0 x0 x1 x2 x3 = (cond (decide (x2 < x1)) (f177h2 x0 x1 x2 x2 x3) (some ⟨[], [(0, .arr tI x3)]⟩)) := hdEq (by kernel_rfl)
theorem f177h2_eq (x0 : Int) (x1 : Int) (x2 : Int) (x3 : Int) (x4 : (List Int)) : f177h2 x0 x1 x2 x3 x4 = (cond (decide (x3 > x0)) (cond (decide ((0 : Int) ≤ x3)) (cond (decide (x3 < ((List.length x4 : Nat) : Int))) (cond (decide ((Int.toNat x3) < List.length x4)) (cond (decide ((0 : Int) ≤ (wrap .i64 (x3 - (1 : Int))))) (cond (decide ((wrap .i64 (x3 - (1 : Int))) < ((List.length x4 : Nat) : Int))) (cond (decide ((Int.toNat (wrap .i64 (x3 - (1 : Int)))) < List.length x4)) (cond (t183_0 (List.getD x4 (Int.toNat x3) (Tc.dflt tI)) (List.getD x4 (Int.toNat (wrap .i64 (x3 - (1 : Int)))) (Tc.dflt tI))) (cond (decide ((0 : Int) ≤ (wrap .i64 (x3 - (1 : Int))))) (cond (decide ((wrap .i64 (x3 - (1 : Int))) < ((List.length x4 : Nat) : Int))) (cond (decide ((Int.toNat (wrap .i64 (x3 - (1 : Int)))) < List.length x4)) (cond (decide ((0 : Int) ≤ x3)) (cond (decide (x3 < ((List.length x4 : Nat) : Int))) (cond (decide ((Int.toNat x3) < List.length x4)) (cond (decide ((0 : Int) ≤ x3)) (cond (decide (x3 < ((List.length x4 : Nat) : Int))) (cond (decide ((Int.toNat x3) < List.length x4)) (cond (decide ((0 : Int) ≤ (wrap .i64 (x3 - (1 : Int))))) (cond (decide ((wrap .i64 (x3 - (1 : Int))) < ((List.length (List.set x4 (Int.toNat x3) (List.getD x4 (Int.toNat (wrap .i64 (x3 - (1 : Int)))) (Tc.dflt tI))) : Nat) : Int))) (cond (decide ((Int.toNat (wrap .i64 (x3 - (1 : Int)))) < List.length (List.set x4 (Int.toNat x3) (List.getD x4 (Int.toNat (wrap .i64 (x3 - (1 : Int)))) (Tc.dflt tI))))) (f177h2 x0 x1 x2 (wrap .i64 (x3 - (1 : Int))) (List.set (List.set x4 (Int.toNat x3) (List.getD x4 (Int.toNat (wrap .i64 (x3 - (1 : Int)))) (Tc.dflt tI))) (Int.toNat (wrap .i64 (x3 - (1 : Int)))) (List.getD x4 (Int.toNat x3) (Tc.dflt tI)))) none) none) none) none) none) none) none) none) none) none) none) none) (f177h0 x0 x1 (wrap .i64 (x2 + (1 : Int))) x4)) none) none) none) none) none) none) (f177h0 x0 x1 (wrap .i64 (x2 + (1 : Int))) x4)) := hdEq (by kernel_rfl)
noncomputable def f148h0 (x0 : Int) (x1 : Int) (x2 : Int) (x3 : Bool) (x4 : Bool) (x5 : (List Int)) : Option Fr := I148.hd 0 (mkF 134 [(0, .slc 0), (1, .dat tI x0), (2, .dat tI x1), (3, .dat tI x2), (8, .dat .bool x3), (9, .dat .bool x4)] [(0, .arr tI x5)])
theorem f148_run (a : Int) (b : Int) (lim : Int) (a0 : (List Int)) : I148.run ⟨[.slc 0, .dat tI a, .dat tI b, .dat tI lim], [(0, .arr tI a0)]⟩ = (f148h0 a b lim true true a0) := (I148.run_eq _).trans (by kernel_rfl)
theorem f148h0_eq (x0 : Int) (x1 : Int) (x2 : Int) (x3 : Bool) (x4 : Bool) (x5 : (List Int)) : f148h0 x0 x1 x2 x3 x4 x5 = (cond (decide ((wrap .i64 (x1 - x0)) ≤ (12 : Int))) (cond (decide (List.length x5 ≤ 12) && x0 == 0 && x1 == (List.length x5 : Int)) (some ⟨[], [(0, .arr tI (sortI x5))]⟩) none) (cond (x2 == (0 : Int)) none (cond (!x3) none none))) := hdEq (by kernel_rfl)
theorem f122_run (a0 : (List Int)) : I122.run ⟨[.slc 0], [(0, .arr tI a0)]⟩ = (cond (t132_ok (wrap .u64 ((List.length a0 : Nat) : Int))) (cond (decide (List.length a0 ≤ 12) && (0 : Int) == 0 && ((List.length a0 : Nat) : Int) == (List.length a0 : Int)) (some ⟨[], [(0, .arr tI (sortI a0))]⟩) none) none) := (I122.run_eq _).trans (by kernel_rfl)
noncomputable def f123h0 (x0 : Int) (x1 : (List Int)) : Option Fr := I123.hd 0 (mkF 61 [(0, .slc 0), (3, .dat tI x0)] [(0, .arr tI x1)])
noncomputable def f123h2 (x0 : Int) (x1 : Nat) (x2 : Int) (x3 : (List Int)) : Option Fr := I123.hd 2 (mkF 61 [(0, .slc 0), (3, .dat tI x0), (4, .ep 0 x1 1048575), (5, .dat tI x2)] [(0, .arr tI x3)])
theorem f123_run (a0 : (List Int)) : I123.run ⟨[.slc 0], [(0, .arr tI a0)]⟩ = (cond (decide (((List.length a0 : Nat) : Int) < (2 : Int))) (some ⟨[.dat (.slice tI) a0], [(0, .dead)]⟩) (f123h0 (1 : Int) a0)) := (I123.run_eq _).trans (by kernel_rfl)
theorem f123h0_eq (x0 : Int) (x1 : (List Int)) : f123h0 x0 x1 = (cond (decide (x0 < ((List.length x1 : Nat) : Int))) (cond (decide ((0 : Int) ≤ x0)) (cond (decide (x0 < ((List.length x1 : Nat) : Int))) (cond (decide ((Int.toNat x0) < List.length x1)) (cond (decide ((0 : Int) ≤ (wrap .i64 (x0 - (1 : Int))))) (cond (decide ((wrap .i64 (x0 - (1 : Int))) < ((List.length x1 : Nat) : Int))) (cond (decide ((Int.toNat (wrap .i64 (x0 - (1 : Int)))) < List.length x1)) (cond ((List.getD x1 (Int.toNat x0) (Tc.dflt tI)) == (List.getD x1 (Int.toNat (wrap .i64 (x0 - (1 : Int)))) (Tc.dflt tI))) (cond (decide ((0 : Int) ≤ x0)) (cond (decide (x0 < ((List.length x1 : Nat) : Int))) (f123h2 x0 (Int.toNat x0) (1 : Int) x1) none) none) (f123h0 (wrap .i64 (x0 + (1 : Int))) x1)) none) none) none) none) none) none) (some ⟨[.dat (.slice tI) x1], [(0, .dead)]⟩)) := hdEq (by kernel_rfl)
theorem f123h2_eq (x0 : Int) (x1 : Nat) (x2 : Int) (x3 : (List Int)) : f123h2 x0 x1 x2 x3 = (cond (decide (x1 < List.length x3)) (cond (decide (x2 < ((List.length x3 - x1 : Nat) : Int))) (cond (decide (x1 < List.length x3)) (cond (decide ((0 : Int) ≤ x2)) (cond (decide (x2 < ((List.length x3 - x1 : Nat) : Int))) (cond (decide ((x1 + Int.toNat x2) < List.length x3)) (cond (decide (x1 < List.length x3)) (cond (decide ((0 : Int) ≤ (wrap .i64 (x2 - (1 : Int))))) (cond (decide ((wrap .i64 (x2 - (1 : Int))) < ((List.length x3 - x1 : Nat) : Int))) (cond (decide ((x1 + Int.toNat (wrap .i64 (x2 - (1 : Int)))) < List.length x3)) (cond ((List.getD x3 (x1 + Int.toNat x2) (Tc.dflt tI)) != (List.getD x3 (x1 + Int.toNat (wrap .i64 (x2 - (1 : Int)))) (Tc.dflt tI))) (cond (decide (x1 < List.length x3)) (cond (decide ((0 : Int) ≤ x2)) (cond (decide (x2 < ((List.length x3 - x1 : Nat) : Int))) (cond (decide ((x1 + Int.toNat x2) < List.length x3)) (cond (decide ((0 : Int) ≤ x0)) (cond (decide (x0 < ((List.length x3 : Nat) : Int))) (cond (decide ((Int.toNat x0) < List.length x3)) (f123h2 (wrap .i64 (x0 + (1 : Int))) x1 (wrap .i64 (x2 + (1 : Int))) (List.set x3 (Int.toNat x0) (List.getD x3 (x1 + Int.toNat x2) (Tc.dflt tI)))) none) none) none) none) none) none) none) (f123h2 x0 x1 (wrap .i64 (x2 + (1 : Int))) x3)) none) none) none) none) none) none) none) none) (cond (decide ((0 : Int) ≤ x0)) (cond (decide (x0 < ((List.length x3 : Nat) : Int))) (cond (decide ((Int.toNat x0) < List.length x3)) (cond (decide ((0 : Int) ≤ (0 : Int))) (cond (decide ((0 : Int) ≤ x0)) (cond (decide (x0 ≤ ((List.length (List.take (Int.toNat x0) x3 ++ List.replicate (List.length x3 - (Int.toNat x0)) (Tc.dflt tI)) : Nat) : Int))) (some ⟨[.dat (.slice tI) (List.drop (Int.toNat (0 : Int)) (List.take (Int.toNat x0) (List.take (Int.toNat x0) x3 ++ List.replicate (List.length x3 - (Int.toNat x0)) (Tc.dflt tI))))], [(0, .dead)]⟩) none) none) none) none) none) none)) none) := hdEq (by kernel_rfl)
noncomputable def f65h0 (x0 : (List Int)) (x1 : Int) (x2 : Int) (x3 : (List Int)) : Option Fr := I65.hd 0 (mkF 22 [(3, .slc 500), (6, .dat (.slice tI) x0), (7, .dat tI x1), (8, .dat tI x2)] [(500, .arr tI x3)])
theorem f65_run (a0 : (List Int)) : I65.run ⟨[.dat (.slice tI) a0], []⟩ = (f65h0 a0 ((List.length a0 : Nat) : Int) (0 : Int) ([] : List Int)) := (I65.run_eq _).trans (by kernel_rfl)
theorem f65h0_eq (x0 : (List Int)) (x1 : Int) (x2 : Int) (x3 : (List Int)) : f65h0 x0 x1 x2 x3 = (cond (decide (x2 < x1)) (cond (decide ((0 : Int) ≤ x2)) (cond (decide (x2 < ((List.length x0 : Nat) : Int))) (cond ((12 : Int) == 0) none (cond (decide ((List.length x3 + List.length [(Int.tmod (List.getD x0 (Int.toNat x2) (Tc.dflt tI)) (12 : Int))]) * 8 ≤ 140737488355328)) (f65h0 x0 x1 (wrap .i64 (x2 + (1 : Int))) (x3 ++ [(Int.tmod (List.getD x0 (Int.toNat x2) (Tc.dflt tI)) (12 : Int))])) none)) none) none) (cond (decide (List.length x3 ≤ 12)) (cond (decide (List.length (sortI x3) ≤ 1000)) (some ⟨[.dat (.slice tI) (compI (sortI x3))], []⟩) none) none)) := hdEq (by kernel_rfl)
noncomputable def f66h0 (x0 : (List Int)) (x1 : Int) (x2 : Int) : Option Fr := I66.hd 0 (mkF 25 [(0, .dat (.slice tI) x0), (3, .dat tI x1), (4, .dat tI x2)] [])
theorem f66_run (a0 : (List Int)) : I66.run ⟨[.dat (.slice tI) a0], []⟩ = (cond (decide (((List.length a0 : Nat) : Int) < (1 : Int))) none (cond (decide ((0 : Int) ≤ (0 : Int))) (cond (decide ((0 : Int) < ((List.length a0 : Nat) : Int))) (f66h0 a0 (List.getD a0 (Int.toNat (0 : Int)) (Tc.dflt tI)) (1 : Int)) none) none)) := (I66.run_eq _).trans (by kernel_rfl)
theorem f66h0_eq (x0 : (List Int)) (x1 : Int) (x2 : Int) : f66h0 x0 x1 x2 = (cond (decide (x2 < ((List.length x0 : Nat) : Int))) (cond (decide ((0 : Int) ≤ x2)) (cond (decide (x2 < ((List.length x0 : Nat) : Int))) (f66h0 x0 (if (List.getD x0 (Int.toNat x2) (Tc.dflt tI)) < x1 then (List.getD x0 (Int.toNat x2) (Tc.dflt tI)) else x1) (wrap .i64 (x2 + (1 : Int)))) none) none) (some ⟨[.dat tI x1], []⟩)) := hdEq (by kernel_rfl)
theorem f119_run (a0 : Int) : I119.run ⟨[.dat tI a0], []⟩ = (cond (decide ((0 : Int) ≤ a0)) (cond (decide (a0 < ((List.length ([([] : List Int), [(0 : Int), (4 : Int), (7 : Int)], [(0 : Int), (3 : Int), (7 : Int)], [(0 : Int), (3 : Int), (6 : Int)], [(0 : Int), (4 : Int), (8 : Int)], [(0 : Int), (4 : Int), (7 : Int), (10 : Int)], [(0 : Int), (4 : Int), (7 : Int), (11 : Int)], [(0 : Int), (3 : Int), (7 : Int), (10 : Int)]] : List (List Int)) : Nat) : Int))) (cond (decide ((Int.toNat a0) < List.length ([([] : List Int), [(0 : Int), (4 : Int), (7 : Int)], [(0 : Int), (3 : Int), (7 : Int)], [(0 : Int), (3 : Int), (6 : Int)], [(0 : Int), (4 : Int), (8 : Int)], [(0 : Int), (4 : Int), (7 : Int), (10 : Int)], [(0 : Int), (4 : Int), (7 : Int), (11 : Int)], [(0 : Int), (3 : Int), (7 : Int), (10 : Int)]] : List (List Int)))) (some ⟨[.dat (.slice tI) (List.getD ([([] : List Int), [(0 : Int), (4 : Int), (7 : Int)], [(0 : Int), (3 : Int), (7 : Int)], [(0 : Int), (3 : Int), (6 : Int)], [(0 : Int), (4 : Int), (8 : Int)], [(0 : Int), (4 : Int), (7 : Int), (10 : Int)], [(0 : Int), (4 : Int), (7 : Int), (11 : Int)], [(0 : Int), (3 : Int), (7 : Int), (10 : Int)]] : List (List Int)) (Int.toNat a0) (Tc.dflt (.slice tI)))], []⟩) none) none) none) := (I119.run_eq _).trans (by kernel_rfl)
noncomputable def f67h0 (x0 : (List Int)) (x1 : Int) (x2 : Int) (x3 : Int) (x4 : Int) (x5 : Int) (x6 : (List Int)) : Option Fr := I67.hd 0 (mkF 33 [(1, .ptr 500 0), (3, .dat (.slice tI) x0), (4, .slc 501), (10, .dat tI x1), (11, .dat tI x2)] [(500, .box [.dat tI x3, .dat tI x4, .dat tI x5]), (501, .arr tI x6)])
theorem f67_run (a0 : Chord) : I67.run ⟨[.dat tChord a0], []⟩ = (cond (decide (0 ≤ a0.2.1) && decide (a0.2.1 ≤ 7)) (f67h0 (kindT a0.2.1) ((List.length (kindT a0.2.1) : Nat) : Int) (0 : Int) a0.1 a0.2.1 a0.2.2 ([] : List Int)) none) := (I67.run_eq _).trans (by kernel_rfl)
theorem f67h0_eq (x0 : (List Int)) (x1 : Int) (x2 : Int) (x3 : Int) (x4 : Int) (x5 : Int) (x6 : (List Int)) : f67h0 x0 x1 x2 x3 x4 x5 x6 = (cond (decide (x2 < x1)) (cond (((List.length x0 : Nat) : Int) == 0) none (cond (decide ((0 : Int) ≤ (Int.tmod (wrap .i64 (x2 + x5)) ((List.length x0 : Nat) : Int)))) (cond (decide ((Int.tmod (wrap .i64 (x2 + x5)) ((List.length x0 : Nat) : Int)) < ((List.length x0 : Nat) : Int))) (cond ((12 : Int) == 0) none (cond (decide ((List.length x6 + List.length [(Int.tmod (wrap .i64 (x3 + (List.getD x0 (Int.toNat (Int.tmod (wrap .i64 (x2 + x5)) ((List.length x0 : Nat) : Int))) (Tc.dflt tI)))) (12 : Int))]) * 8 ≤ 140737488355328)) (f67h0 x0 x1 (wrap .i64 (x2 + (1 : Int))) x3 x4 x5 (x6 ++ [(Int.tmod (wrap .i64 (x3 + (List.getD x0 (Int.toNat (Int.tmod (wrap .i64 (x2 + x5)) ((List.length x0 : Nat) : Int))) (Tc.dflt tI)))) (12 : Int))])) none)) none) none)) (some ⟨[.dat (.slice tI) x6], []⟩)) := hdEq (by kernel_rfl)
noncomputable def f68h0 (x0 : (List Int)) (x1 : Int) (x2 : Int) (x3 : Int) : Option Fr := I68.hd 0 (mkF 19 [(0, .dat (.slice tI) x0), (1, .dat tI x1), (7, .dat tI x2), (8, .dat tI x3)] [])
theorem f68_run (a0 : (List Int)) (a1 : Int) : I68.run ⟨[.dat (.slice tI) a0, .dat tI a1], []⟩ = (f68h0 a0 a1 ((List.length a0 : Nat) : Int) (0 : Int)) := (I68.run_eq _).trans (by kernel_rfl)
theorem f68h0_eq (x0 : (List Int)) (x1 : Int) (x2 : Int) (x3 : Int) : f68h0 x0 x1 x2 x3 = (cond (decide (x3 < x2)) (cond (decide ((0 : Int) ≤ x3)) (cond (decide (x3 < ((List.length x0 : Nat) : Int))) (cond (x1 == (List.getD x0 (Int.toNat x3) (Tc.dflt tI))) (some ⟨[.dat tI x3], []⟩) (f68h0 x0 x1 x2 (wrap .i64 (x3 + (1 : Int))))) none) none) (some ⟨[.dat tI (-1 : Int)], []⟩)) := hdEq (by kernel_rfl)
end Go.Ev.H
