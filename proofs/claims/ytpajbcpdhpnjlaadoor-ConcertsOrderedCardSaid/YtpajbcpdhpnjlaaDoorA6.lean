import Derived.Test.YtpajbcpdhpnjlaaDoorA5
import Derived.Test.YtpajbcpdhpnjlaaDoorA3
import Derived.WalkKit
import Derived.ProofKit
import Derived.OpenShut
import Derived.ChangeOld
import Derived.Carry
import Derived.SizedLaws
set_option linter.unusedVariables false
set_option linter.unusedSimpArgs false
namespace Go.Ev.M
open Go Go.Ev Go.Proofs
theorem go88b (xs : List Item) (hb : xs.length ≤ 1000) (k : Bytes) : ∀ (m i : Nat), i + m = xs.length →
    f88bh0 xs xs.length i k = some ⟨[.dat tI (idxBy (fun o => t96_0 o k) (xs.drop i) i)], [(0, .box [.dat .str k])]⟩ := by
  intro m
  induction m with
  | zero => intro i hi; rw [f88bh0_eq, condF (dlt_not (by omega)), dnil (xs := xs) (i := i) (by omega)]; rfl
  | succ m ih =>
    intro i hi
    have hlt : i < xs.length := by omega
    rw [f88bh0_eq]
    rw [condT (dT (by first | omega | (simp only [List.length_append, List.length_cons, List.length_nil, List.length_set, List.length_take, List.length_drop, List.length_map]; omega) | (simp; omega)))]
    rw [condT (dT (by first | omega | (simp only [List.length_append, List.length_cons, List.length_nil, List.length_set, List.length_take, List.length_drop, List.length_map]; omega) | (simp; omega)))]
    rw [condT (dT (by first | omega | (simp only [List.length_append, List.length_cons, List.length_nil, List.length_set, List.length_take, List.length_drop, List.length_map]; omega) | (simp; omega)))]
    rw [getN _ _ _ hlt, wsucc (by omega), ih (i + 1) (by omega), dcons hlt]
    simp only [idxBy]
    cases t96_0 xs[i] k <;> rfl
theorem r88b : R88b := by
  intro a0 k h
  simp only [decide_eq_true_eq] at h
  rw [f88b_run]
  exact go88b a0 h k a0.length 0 (by omega)
theorem r73 : R73 := by
  intro a0 a1 h
  rw [f73_run, condT (a := some _) h]
  have e : (a0 == a1) = (a0.1 == a1.1 && (a0.2.1 == a1.2.1 && (a0.2.2.1 == a1.2.2.1 && a0.2.2.2 == a1.2.2.2))) := rfl
  rw [e]
  cases a0.1 == a1.1 with
  | false => rfl
  | true =>
    cases a0.2.1 == a1.2.1 with
    | false => rfl
    | true => cases a0.2.2.1 == a1.2.2.1 <;> rfl
theorem go72 (a b : List Item) (hl : a.length = b.length) (hb : a.length ≤ 1000) (hp : partsOk a = true) : ∀ (m i : Nat), i + m = a.length → f72h0 b a a.length i = some ⟨[.dat .bool (a.drop i == b.drop i)], []⟩ := by
  intro m
  induction m with
  | zero => intro i hi; rw [f72h0_eq, condF (dlt_not (by omega)), dnil (xs := a) (by omega), dnil (xs := b) (by omega)]; rfl
  | succ m ih =>
    intro i hi
    have hlt : i < a.length := by omega
    have hlt' : i < b.length := by omega
    rw [f72h0_eq]
    rw [condT (dT (by first | omega | (simp only [List.length_append, List.length_cons, List.length_nil, List.length_set, List.length_take, List.length_drop, List.length_map]; omega) | (simp; omega)))]
    rw [condT (dT (by first | omega | (simp only [List.length_append, List.length_cons, List.length_nil, List.length_set, List.length_take, List.length_drop, List.length_map]; omega) | (simp; omega)))]
    rw [condT (dT (by first | omega | (simp only [List.length_append, List.length_cons, List.length_nil, List.length_set, List.length_take, List.length_drop, List.length_map]; omega) | (simp; omega)))]
    rw [condT (dT (by first | omega | (simp only [List.length_append, List.length_cons, List.length_nil, List.length_set, List.length_take, List.length_drop, List.length_map]; omega) | (simp; omega)))]
    rw [condT (dT (by first | omega | (simp only [List.length_append, List.length_cons, List.length_nil, List.length_set, List.length_take, List.length_drop, List.length_map]; omega) | (simp; omega)))]
    rw [getN _ _ _ hlt, getN _ _ _ hlt', eta_i, eta_i, condT (dT (parts_mem hp (List.getElem_mem hlt))), wsucc (by omega), ih (i + 1) (by omega), dcons hlt, dcons hlt', List.cons_beq_cons]
    cases a[i] == b[i] <;> rfl
theorem r72 : R72 := by
  intro a0 a1 h
  simp only [Bool.and_eq_true, decide_eq_true_eq] at h
  rw [f72_run]
  cases hn : ((a0.length : Int) != (a1.length : Int)) with
  | true =>
    have : a0 ≠ a1 := by
      intro e; subst e; simp at hn
    have : (a0 == a1) = false := by rw [beq_eq_false_iff_ne]; exact this
    rw [this]; rfl
  | false =>
    have hl : a0.length = a1.length := by simp at hn; omega
    exact go72 a0 a1 hl h.1 h.2 a0.length 0 (by omega)
theorem r34 : R34 := by
  intro a0 a1 h
  rw [f34_run, condT (a := some _) h]
  have e : (a0 == a1) = (a0.1 == a1.1 && (a0.2.1 == a1.2.1 && (a0.2.2.1 == a1.2.2.1 && (a0.2.2.2.1 == a1.2.2.2.1 && a0.2.2.2.2 == a1.2.2.2.2)))) := rfl
  rw [e]
  cases a0.2.1 == a1.2.1 with
  | false => cases a0.1 == a1.1 <;> rfl
  | true =>
    cases a0.2.2.1 == a1.2.2.1 with
    | false => cases a0.1 == a1.1 <;> rfl
    | true =>
      cases a0.2.2.2.1 == a1.2.2.2.1 with
      | false => cases a0.1 == a1.1 <;> rfl
      | true => cases a0.2.2.2.2 == a1.2.2.2.2 <;> cases a0.1 == a1.1 <;> rfl

/-! ### another order -/
def movOut (p : Prgm) (r : List Item × Int) : Prgm × Int := cond (r.2 != 0) (zeroP, r.2) ((r.1, p.2), 0)
theorem ix_lt (xs : List Item) (k : Bytes) (h : ¬ itemIx xs k < 0) : 0 ≤ itemIx xs k ∧ itemIx xs k < (xs.length : Int) := by
  rcases idxBy_split (fun (o : Item) => o.1 == k) xs 0 with ⟨h1, _⟩ | ⟨n, h1, h2, _⟩
  · exfalso; apply h; show idxBy (fun (o : Item) => o.1 == k) xs 0 < 0; rw [h1]; decide
  · have : itemIx xs k = ((0 + n : Nat) : Int) := h2
    omega
theorem getD_mem (xs : List Item) (k : Bytes) (h : ¬ itemIx xs k < 0) : xs.getD (itemIx xs k).toNat (Tc.dflt tItem) ∈ xs := by
  have := ix_lt xs k h
  have hl : (itemIx xs k).toNat < xs.length := by omega
  rw [List.getD_eq_getElem?_getD, List.getElem?_eq_getElem hl]
  exact List.getElem_mem hl
theorem go132 (p : Prgm) (hp : partsOk p.1 = true) (hb : p.1.length ≤ 1000) (o : List Bytes) (ho : o.length ≤ 1000) (e : List Item) : ∀ (m i : Nat) (acc : List Item), i + m = o.length → acc.length ≤ i →
    f32h0x1 o o o.length i p.1 p.2.1 p.2.2.1 p.2.2.2.1 p.2.2.2.2 0 0 0 0 p.2.1 p.2.2.1 p.2.2.2.1 p.2.2.2.2 e acc =
      some ⟨[.dat tPrgm (movOut p (movGo p.1 (o.take i) (o.drop i) acc)).1, .dat tI (movOut p (movGo p.1 (o.take i) (o.drop i) acc)).2], []⟩ := by
  intro m
  induction m with
  | zero => intro i acc hi ha; rw [f32h0x1_eq, condF (dlt_not (by omega)), dnil (xs := o) (i := i) (by omega)]; rfl
  | succ m ih =>
    intro i acc hi ha
    have hlt : i < o.length := by omega
    have q1 : t69_ok p o[i] = true ∧ t69_0 p o[i] = itemIx p.1 o[i] := by
      unfold t69_ok t69_0 t69; rw [dT hb]; exact ⟨rfl, rfl⟩
    rw [f32h0x1_eq]
    rw [condT (dT (by first | omega | (simp only [List.length_append, List.length_cons, List.length_nil, List.length_set, List.length_take, List.length_drop, List.length_map]; omega) | (simp; omega)))]
    rw [condT (dT (by first | omega | (simp only [List.length_append, List.length_cons, List.length_nil, List.length_set, List.length_take, List.length_drop, List.length_map]; omega) | (simp; omega)))]
    rw [condT (dT (by first | omega | (simp only [List.length_append, List.length_cons, List.length_nil, List.length_set, List.length_take, List.length_drop, List.length_map]; omega) | (simp; omega)))]
    rw [getN _ _ _ hlt, eta_pr, condT q1.1, q1.2, dcons hlt, movGo]
    by_cases hx : itemIx p.1 o[i] < 0
    · rw [condT (dT hx), dT hx]; rfl
    · have r1 := ix_lt p.1 o[i] hx
      have r2 := parts_mem hp (getD_mem p.1 o[i] hx)
      rw [condF (dF hx), dF hx]
      rw [condT (dT (by first | omega | (simp only [List.length_append, List.length_cons, List.length_nil, List.length_set, List.length_take, List.length_drop, List.length_map]; omega) | (simp; omega)))]
      rw [condT (dT (by first | omega | (simp only [List.length_append, List.length_cons, List.length_nil, List.length_set, List.length_take, List.length_drop, List.length_map]; omega) | (simp; omega)))]
      rw [condT (dT (by first | omega | (simp only [List.length_append, List.length_cons, List.length_nil, List.length_set, List.length_take, List.length_drop, List.length_map]; omega) | (simp; omega)))]
      rw [Int.toNat_natCast, Int.toNat_zero, List.drop_zero, condT (dT (by rw [List.length_take]; omega))]
      simp only [cond_false]
      cases hh : hasS (o.take i) o[i] with
      | true => rfl
      | false =>
        have q3 : t71_ok (p.1.getD (itemIx p.1 o[i]).toNat (Tc.dflt tItem)) = true ∧ t71_0 (p.1.getD (itemIx p.1 o[i]).toNat (Tc.dflt tItem)) = p.1.getD (itemIx p.1 o[i]).toNat (Tc.dflt tItem) := by
          unfold t71_ok t71_0 t71; rw [dT r2]; exact ⟨rfl, rfl⟩
        rw [cond_false, cond_false, condT (dT r1.1), condT (dT r1.2), condT q3.1, q3.2, condT (dT (by simp; omega)), wsucc (by omega)]
        have := ih (i + 1) (acc ++ [p.1.getD (itemIx p.1 o[i]).toNat (Tc.dflt tItem)]) (by omega) (by simp; omega)
        rw [List.take_succ_eq_append_getElem hlt] at this
        exact this
theorem go032 (p : Prgm) (hp : partsOk p.1 = true) (hb : p.1.length ≤ 1000) (o : List Bytes) (ho : o.length ≤ 1000) :
    f32h0 o o o.length 0 p.1 p.2.1 p.2.2.1 p.2.2.2.1 p.2.2.2.2 0 0 0 0 p.2.1 p.2.2.1 p.2.2.2.1 p.2.2.2.2 [] =
      some ⟨[.dat tPrgm (movOut p (movGo p.1 [] o [])).1, .dat tI (movOut p (movGo p.1 [] o [])).2], []⟩ := by
  cases o with
  | nil => rw [f32h0_eq, condF (dF (by simp))]; rfl
  | cons k o =>
    have hlt : 0 < (k :: o).length := by simp
    have q1 : t69_ok p k = true ∧ t69_0 p k = itemIx p.1 k := by
      unfold t69_ok t69_0 t69; rw [dT hb]; exact ⟨rfl, rfl⟩
    have e0 : (0 : Int) = ((0 : Nat) : Int) := rfl
    rw [f32h0_eq, condT (dT (by simp)), condT (dT (by omega)), condT (dT (by simp))]
    have eg : List.getD (k :: o) (Int.toNat (0 : Int)) (Tc.dflt .str) = k := rfl
    rw [eg, eta_pr, condT q1.1, q1.2, movGo]
    by_cases hx : itemIx p.1 k < 0
    · rw [condT (dT hx), dT hx]; rfl
    · have r1 := ix_lt p.1 k hx
      have r2 := parts_mem hp (getD_mem p.1 k hx)
      rw [condF (dF hx), dF hx, condT (dT (by omega)), condT (dT (by omega)), condT (dT (by simp; omega)), condT (dT (by simp))]
      have eh : hasS (List.drop (Int.toNat (0 : Int)) (List.take (Int.toNat (0 : Int)) (k :: o))) k = false := rfl
      have eh2 : hasS [] k = false := rfl
      have q3 : t71_ok (p.1.getD (itemIx p.1 k).toNat (Tc.dflt tItem)) = true ∧ t71_0 (p.1.getD (itemIx p.1 k).toNat (Tc.dflt tItem)) = p.1.getD (itemIx p.1 k).toNat (Tc.dflt tItem) := by
        unfold t71_ok t71_0 t71; rw [dT r2]; exact ⟨rfl, rfl⟩
      rw [eh, eh2, cond_false, cond_false, cond_false, condT (dT r1.1), condT (dT r1.2), condT q3.1, q3.2, condT (dT (by simp))]
      have := go132 p hp hb (k :: o) ho [] o.length 1 [p.1.getD (itemIx p.1 k).toNat (Tc.dflt tItem)] (by simp; omega) (by simp)
      exact this
theorem r32 : R32 := by
  intro a0 a1 h
  simp only [decide_eq_true_eq] at h
  rw [f32_run, eta_pr]
  unfold movP movR
  cases hc : checkProg isKey a0 != 0 with
  | true => rfl
  | false =>
    have hk : checkProg keyR a0 = 0 := by
      rw [isKey_fun] at hc
      have : (!(checkProg keyR a0 == 0)) = false := hc
      simpa using this
    rw [cond_false, cond_false]
    cases hn : (a1.length : Int) != (a0.1.length : Int) with
    | true => rfl
    | false => exact go032 a0 (prog_ok hk).2 (by have := prog60 hk; omega) a1 h
theorem go33 (p : Prgm) (hb : p.1.length ≤ 1000) (o : List Bytes) (ho : o.length ≤ 1000) (e : List Item) : ∀ (m i : Nat) (acc : List Item), i + m = o.length → acc.length ≤ i →
    f33h0 o o o.length i p.1 p.2.1 p.2.2.1 p.2.2.2.1 p.2.2.2.2 0 0 0 0 acc e =
      some ⟨[.dat tPrgm (movOut p (movGo p.1 (o.take i) (o.drop i) acc)).1, .dat tI (movOut p (movGo p.1 (o.take i) (o.drop i) acc)).2], []⟩ := by
  intro m
  induction m with
  | zero => intro i acc hi ha; rw [f33h0_eq, condF (dlt_not (by omega)), dnil (xs := o) (i := i) (by omega)]; rfl
  | succ m ih =>
    intro i acc hi ha
    have hlt : i < o.length := by omega
    have q1 : t55_ok p.1 o[i] = true ∧ t55_0 p.1 o[i] = itemIx p.1 o[i] := ok55 p.1 o[i] hb
    rw [f33h0_eq]
    rw [condT (dT (by first | omega | (simp only [List.length_append, List.length_cons, List.length_nil, List.length_set, List.length_take, List.length_drop, List.length_map]; omega) | (simp; omega)))]
    rw [condT (dT (by first | omega | (simp only [List.length_append, List.length_cons, List.length_nil, List.length_set, List.length_take, List.length_drop, List.length_map]; omega) | (simp; omega)))]
    rw [condT (dT (by first | omega | (simp only [List.length_append, List.length_cons, List.length_nil, List.length_set, List.length_take, List.length_drop, List.length_map]; omega) | (simp; omega)))]
    rw [getN _ _ _ hlt, condT q1.1, q1.2, dcons hlt, movGo]
    by_cases hx : itemIx p.1 o[i] < 0
    · rw [condT (dT hx), dT hx]; rfl
    · have r1 := ix_lt p.1 o[i] hx
      rw [condF (dF hx), dF hx]
      rw [condT (dT (by first | omega | (simp only [List.length_append, List.length_cons, List.length_nil, List.length_set, List.length_take, List.length_drop, List.length_map]; omega) | (simp; omega)))]
      rw [condT (dT (by first | omega | (simp only [List.length_append, List.length_cons, List.length_nil, List.length_set, List.length_take, List.length_drop, List.length_map]; omega) | (simp; omega)))]
      rw [condT (dT (by first | omega | (simp only [List.length_append, List.length_cons, List.length_nil, List.length_set, List.length_take, List.length_drop, List.length_map]; omega) | (simp; omega)))]
      rw [Int.toNat_natCast, Int.toNat_zero, List.drop_zero, condT (dT (by rw [List.length_take]; omega))]
      simp only [cond_false]
      cases hh : hasS (o.take i) o[i] with
      | true => rfl
      | false =>
        rw [cond_false, cond_false, condT (dT r1.1), condT (dT r1.2), condT (dT (by simp; omega)), wsucc (by omega)]
        have := ih (i + 1) (acc ++ [p.1.getD (itemIx p.1 o[i]).toNat (Tc.dflt tItem)]) (by omega) (by simp; omega)
        rw [List.take_succ_eq_append_getElem hlt] at this
        exact this
theorem r33 : R33 := by
  intro a0 a1 h
  simp only [Bool.and_eq_true, decide_eq_true_eq] at h
  rw [f33_run]
  unfold movR
  cases hn : (a1.length : Int) != (a0.1.length : Int) with
  | true => rfl
  | false => exact go33 a0 h.1 a1 h.2 [] a1.length 0 [] (Nat.zero_add _) (by simp)

def QOr (L : List Int) (n : Nat) (a b : Int) (f : Fr) : Prop := ∃ (a' : Int) (l : List Int), f = ⟨[.dat (.slice tI) l], [(0, .box [.dat (.slice tI) L, .dat tI a'])]⟩ ∧ a ≤ a' ∧ a' ≤ b ∧ l.length = n ∧ ∀ x ∈ l, 0 ≤ x ∧ x < (n : Int)
theorem QOr_mono {L : List Int} {n : Nat} {a b c d : Int} (h1 : c ≤ a) (h2 : b ≤ d) {o : Option Fr} (h : Ends (QOr L n a b) o) : Ends (QOr L n c d) o := by
  refine ends_mono h ?_
  rintro f ⟨a', l, e, h3, h4, h5⟩
  exact ⟨a', l, e, by omega, by omega, h5⟩
theorem getD_in {l : List Int} {n : Int} (hr : ∀ x ∈ l, 0 ≤ x ∧ x < n) {j : Nat} (h : j < l.length) (d : Int) : 0 ≤ l.getD j d ∧ l.getD j d < n := by
  rw [List.getD_eq_getElem?_getD, List.getElem?_eq_getElem h]
  exact hr _ (List.getElem_mem h)
theorem set_in {l : List Int} {n : Int} (hr : ∀ x ∈ l, 0 ≤ x ∧ x < n) {v : Int} (hv : 0 ≤ v ∧ v < n) (j : Nat) : ∀ x ∈ l.set j v, 0 ≤ x ∧ x < n := by
  intro x hx
  rcases List.mem_or_eq_of_mem_set hx with h | rfl
  · exact hr x h
  · exact hv
theorem or2 (L : List Int) (n : Nat) (hn : n ≤ 5) : ∀ (i : Nat) (a : Int) (l : List Int), i < n → 0 ≤ a → a + i ≤ 1099511627776 → l.length = n → (∀ x ∈ l, 0 ≤ x ∧ x < (n : Int)) → Ends (QOr L n a (a + i)) (f28h2 i L a l)
  | 0, a, l, hi, h0, ha, hl, hr => by
    rw [f28h2_eq, condF (dF (by omega))]
    exact ends_some ⟨_, _, rfl, by omega, by omega, hl, hr⟩
  | i + 1, a, l, hi, h0, ha, hl, hr => by
    have e1 := nextAt_s (a := a) h0 (by omega)
    have ew : wrap .i64 (((i + 1 : Nat) : Int) - 1) = (i : Int) := by rw [wrap_in (by omega) (by omega)]; omega
    rw [f28h2_eq, condT (dT (by omega)), wsucc (by omega), e1, ew]
    obtain ⟨k1, k2⟩ := next_range L a (n := ((i + 1 + 1 : Nat) : Int)) (by omega) (by omega)
    generalize next L a ((i + 1 + 1 : Nat) : Int) = k at k1 k2 ⊢
    refine ends_if (atOk_t h0 (by omega)) ?_
    rw [Int.toNat_natCast]
    have hk : k.toNat < l.length := by omega
    have hi' : i + 1 < l.length := by omega
    repeat (rw [condT (dT (by first | omega | (simp only [List.length_append, List.length_cons, List.length_nil, List.length_set, List.length_take, List.length_drop, List.length_map]; omega) | (simp; omega)))])
    have m1 := getD_in hr hk (Tc.dflt tI)
    have m2 := getD_in hr hi' (Tc.dflt tI)
    exact QOr_mono (by omega) (by omega) (or2 L n hn i (a + 1) _ (by omega) (by omega) (by omega) (by simp; exact hl) (set_in (set_in hr m1 _) m2 _))
theorem or0 (L : List Int) (n : Nat) (hn : n ≤ 5) (a : Int) (h0 : 0 ≤ a) (ha : a + 10 ≤ 1099511627776) : ∀ (m i : Nat) (l : List Int), i + m = n → l.length = i → (∀ x ∈ l, 0 ≤ x ∧ x < (i : Int)) → Ends (QOr L n a (a + 10)) (f28h0 n n i L a l)
  | 0, i, l, hi, hl, hr => by
    rw [f28h0_eq, condF (dlt_not (by omega))]
    have : i = n := by omega
    subst this
    cases i with
    | zero =>
      rw [show wrap .i64 (((0 : Nat) : Int) - 1) = -1 from rfl, f28h2_eq, condF (dF (by decide))]
      exact ends_some ⟨_, _, rfl, by omega, by omega, hl, hr⟩
    | succ j =>
      have ew : wrap .i64 (((j + 1 : Nat) : Int) - 1) = (j : Int) := by rw [wrap_in (by omega) (by omega)]; omega
      rw [ew]
      exact QOr_mono (by omega) (by omega) (or2 L (j + 1) hn j a l (by omega) h0 (by omega) hl hr)
  | m + 1, i, l, hi, hl, hr => by
    rw [f28h0_eq, condT (dlt (by omega)), condT (dT (by simp; omega)), wsucc (by omega)]
    refine or0 L n hn a h0 ha m (i + 1) _ (by omega) (by simp; exact hl) (fun x hx => ?_)
    rcases List.mem_append.1 hx with h | h
    · have := hr x h; omega
    · rw [List.mem_singleton.1 h]; omega
theorem aOrder_spec (L : List Int) (at_ n : Int) (h : (atOk 100 at_ && decide (0 ≤ n) && decide (n ≤ 5)) = true) :
    (at_ ≤ (aOrder L at_ n).1 ∧ (aOrder L at_ n).1 ≤ at_ + 10 ∧ (aOrder L at_ n).2.length = n.toNat ∧ ∀ x ∈ (aOrder L at_ n).2, 0 ≤ x ∧ x < n) ∧
    I28.run ⟨[.ptr 0 0, .dat tI n], [(0, .box [.dat (.slice tI) L, .dat tI at_])]⟩ = some ⟨[.dat (.slice tI) (aOrder L at_ n).2], [(0, .box [.dat (.slice tI) L, .dat tI (aOrder L at_ n).1])]⟩ := by
  simp only [Bool.and_eq_true, decide_eq_true_eq] at h
  obtain ⟨⟨h1, h2⟩, h3⟩ := h
  have h1 := atOk_iff.1 h1
  obtain ⟨k, rfl⟩ := Int.eq_ofNat_of_zero_le h2
  have hE : Ends (QOr L k at_ (at_ + 10)) (I28.run ⟨[.ptr 0 0, .dat tI k], [(0, .box [.dat (.slice tI) L, .dat tI at_])]⟩) := by
    rw [f28_run]
    exact or0 L k (by omega) at_ h1.1 (by omega) k 0 [] (Nat.zero_add _) rfl (fun x hx => by cases hx)
  obtain ⟨f, hf, a', p, rfl, h4, h5, h6, h7⟩ := hE
  exact Classical.epsilon_spec (p := fun p : Int × List Int => (at_ ≤ p.1 ∧ p.1 ≤ at_ + 10 ∧ p.2.length = Int.toNat k ∧ ∀ x ∈ p.2, 0 ≤ x ∧ x < (k : Int)) ∧
    I28.run ⟨[.ptr 0 0, .dat tI k], [(0, .box [.dat (.slice tI) L, .dat tI at_])]⟩ = some ⟨[.dat (.slice tI) p.2], [(0, .box [.dat (.slice tI) L, .dat tI p.1])]⟩)
    ⟨(a', p), ⟨h4, h5, by show p.length = _; rw [h6, Int.toNat_natCast], h7⟩, hf⟩
theorem r28 : R28 := fun a0 L at_ h => (aOrder_spec L at_ a0 h).2

end Go.Ev.M

set_option linter.unusedVariables false
set_option linter.unusedSimpArgs false
namespace Go.Ev.M
open Go Go.Ev Go.Proofs
theorem movGo_in (xs : List Item) : ∀ (l pre : List Bytes) (acc : List Item), (∀ x ∈ acc, x ∈ xs) → (∀ x ∈ (movGo xs pre l acc).1, x ∈ xs) ∧ (movGo xs pre l acc).1.length ≤ acc.length + l.length
  | [], pre, acc, h => ⟨h, by show acc.length ≤ _; omega⟩
  | k :: l, pre, acc, h => by
    rw [movGo]
    by_cases hx : itemIx xs k < 0
    · rw [dT hx]; exact ⟨fun x hx => (by cases hx), Nat.zero_le _⟩
    · rw [dF hx, cond_false]
      cases hasS pre k with
      | true => exact ⟨fun x hx => (by cases hx), Nat.zero_le _⟩
      | false =>
        rw [cond_false]
        have := movGo_in xs l (pre ++ [k]) (acc ++ [xs.getD (itemIx xs k).toNat (Tc.dflt tItem)]) (fun x hm => by
          rcases List.mem_append.1 hm with h1 | h1
          · exact h x h1
          · rw [List.mem_singleton.1 h1]; exact getD_mem xs k hx)
        refine ⟨this.1, ?_⟩
        have h2 := this.2
        rw [List.length_append, List.length_singleton] at h2
        rw [List.length_cons]; omega
theorem movR_fine (p : Prgm) (o : List Bytes) (ho : o.length ≤ 10) (hp : partsOk p.1 = true) : (movR p o).1.1.length ≤ 1000 ∧ partsOk (movR p o).1.1 = true := by
  unfold movR
  cases (o.length : Int) != (p.1.length : Int) with
  | true => exact ⟨Nat.zero_le _, rfl⟩
  | false =>
    rw [cond_false]
    have := movGo_in p.1 o [] [] (fun x h => by cases h)
    cases (movGo p.1 [] o []).2 != 0 with
    | true => exact ⟨Nat.zero_le _, rfl⟩
    | false =>
      refine ⟨?_, parts_of fun x hx => parts_mem hp (this.1 x hx)⟩
      have h2 := this.2
      have e : ([] : List Item).length = 0 := rfl
      show (movGo p.1 [] o []).1.length ≤ 1000
      omega
theorem movP_facts (p : Prgm) (o : List Bytes) (ho : o.length ≤ 10) : ((movP p o).1.1.length ≤ 1000 ∧ partsOk (movP p o).1.1 = true) ∧ (checkProg keyR p = 0 → movP p o = movR p o) ∧ (checkProg keyR p ≠ 0 → movP p o = (zeroP, checkProg keyR p)) := by
  unfold movP
  rw [isKey_fun]
  by_cases h : checkProg keyR p = 0
  · have e : (checkProg keyR p != 0) = false := by rw [h]; rfl
    rw [e, cond_false]
    exact ⟨movR_fine p o ho (prog_ok h).2, fun _ => rfl, fun hn => absurd h hn⟩
  · have e : (checkProg keyR p != 0) = true := by simpa using h
    rw [e, cond_true]
    exact ⟨⟨Nat.zero_le _, rfl⟩, fun h0 => absurd h0 h, fun _ => rfl⟩
theorem two_cases (c w : Int) : firstE [c, w] = cond (c != 0) c (cond (w != 0) w 0) := rfl
theorem beqT {α : Type} [BEq α] [LawfulBEq α] {a b : α} (h : a = b) : (a == b) = true := by rw [h]; exact beq_self_eq_true _
theorem bneF {α : Type} [BEq α] [LawfulBEq α] {a b : α} (h : a = b) : (a != b) = false := by rw [h]; exact bne_self_eq_false b
theorem nbeqF {α : Type} [BEq α] [LawfulBEq α] {a b : α} (h : a = b) : (!(a == b)) = false := by rw [h, beq_self_eq_true]; rfl

theorem law_tail (p : Prgm) (h5 : p.1.length ≤ 5) (o : List Bytes) (ho : o.length ≤ 10) (A B : Option Fr) :
    cond (decide (List.length o ≤ 1000)) (cond (checkProg keyR p == (0 : Int)) (cond (decide (List.length p.1 ≤ 1000) && decide (List.length o ≤ 1000)) (cond ((movP p o).2 == (movR p o).2)
      (cond (decide (List.length (movP p o).1.1 ≤ 1000) && partsOk (movP p o).1.1) (cond ((movP p o).1 == (movR p o).1) A B) none) B) none)
      (cond ((movP p o).2 == checkProg keyR p) (cond (decide (List.length (movP p o).1.1 ≤ 1000) && partsOk (movP p o).1.1) (cond ((movP p o).1 == zeroP) A B) none) B)) none = A := by
  obtain ⟨⟨g1, g2⟩, g3, g4⟩ := movP_facts p o ho
  have gg : (decide (List.length (movP p o).1.1 ≤ 1000) && partsOk (movP p o).1.1) = true := by rw [dT g1, g2]; rfl
  rw [condT (dT (by omega))]
  cases h : checkProg keyR p == 0 with
  | true =>
    have e := g3 (by simpa using h)
    rw [cond_true, condT (by rw [dT (p := p.1.length ≤ 1000) (by omega), dT (p := o.length ≤ 1000) (by omega)]; rfl), condT (beqT (by rw [e])), condT gg, condT (beqT (by rw [e]))]
  | false =>
    have hn : checkProg keyR p ≠ 0 := by simpa using h
    have e := g4 hn
    rw [cond_false, condT (beqT (by rw [e])), condT gg, condT (beqT (by rw [e]))]

theorem law0 (p : Prgm) (h5 : p.1.length ≤ 5) (L ix : List Int) (hr : ∀ x ∈ ix, 0 ≤ x ∧ x < (p.1.length : Int)) (hl : ix.length ≤ 5) (a : Int) (h0 : 0 ≤ a) (ha : a + 20 ≤ 1099511627776) : ∀ (m i : Nat) (o : List Bytes), i + m = ix.length → o.length = i →
    f4h0 (checkProg keyR p) ix ix.length i L a p.1 p.2.1 p.2.2.1 p.2.2.2.1 p.2.2.2.2 o = some ⟨[.dat .bool true], []⟩ := by
  intro m
  induction m with
  | zero =>
    intro i o hi ho
    rw [f4h0_eq, condF (dlt_not (by omega)), condT (atOk_t h0 (by omega))]
    have e1 := nextAt_s (a := a) h0 (by omega)
    have e2 := nextAt_s (a := a + 1) (by omega) (by omega)
    rw [e1, e2]
    cases next L a 6 == 0 with
    | false =>
      rw [cond_false]
      exact law_tail p h5 o (by omega) _ _
    | true =>
      rw [cond_true]
      have r1 := rangeS_in L (a + 1 + 1) (lo := 0) (hi := 1) (by omega) (by omega) (by omega)
      generalize rangeS L (a + 1 + 1) 0 1 = r at r1 ⊢
      generalize some_ L (a + 1) [[97], [122, 122]] = k
      have hm : 0 ≤ (if r < (1 : Int) then r else (1 : Int)) ∧ (if r < (1 : Int) then r else (1 : Int)) ≤ 1 := by split <;> omega
      generalize (if r < (1 : Int) then r else (1 : Int)) = d at hm ⊢
      refine (condT (atOk_and (by omega) (by omega) rfl rfl)).trans ?_
      refine (condT (dT (by simp; omega))).trans ?_
      refine (condT (atOk_t (by omega) (by omega))).trans ?_
      refine (condT (dT hm.1)).trans ?_
      refine (condT (dT (by simp; omega))).trans ?_
      refine (condT (dT (Int.le_refl _))).trans ?_
      generalize hO : List.drop (Int.toNat d) (List.take (Int.toNat ((List.length (o ++ [k]) : Nat) : Int)) (o ++ [k])) = O
      have hlen : O.length ≤ 10 := by rw [← hO]; simp; omega
      exact law_tail p h5 O hlen _ _
  | succ m ih =>
    intro i o hi ho
    have hlt : i < ix.length := by omega
    have hx := hr _ (List.getElem_mem hlt)
    rw [f4h0_eq]
    rw [condT (dT (by first | omega | (simp only [List.length_append, List.length_cons, List.length_nil, List.length_set, List.length_take, List.length_drop, List.length_map]; omega) | (simp; omega)))]
    rw [condT (dT (by first | omega | (simp only [List.length_append, List.length_cons, List.length_nil, List.length_set, List.length_take, List.length_drop, List.length_map]; omega) | (simp; omega)))]
    rw [condT (dT (by first | omega | (simp only [List.length_append, List.length_cons, List.length_nil, List.length_set, List.length_take, List.length_drop, List.length_map]; omega) | (simp; omega)))]
    rw [getN _ _ _ hlt, condT (dT hx.1), condT (dT hx.2), condT (dT (by simp; omega)), wsucc (by omega)]
    exact ih (i + 1) _ (by omega) (by simp; exact ho)

theorem ord_facts (p : Prgm) (h5 : p.1.length ≤ 5) : (ordR p).2.2 = firstE [checkProg keyR p, t24_0 (decide (((List.length p.1 : Nat) : Int) > (7 : Int))) 2] ∧
    ((firstE [checkProg keyR p, t24_0 (decide (((List.length p.1 : Nat) : Int) > (7 : Int))) 2] == 0) = true → checkProg keyR p = 0 ∧ (ordR p).1 = (bestR p).1 ∧ (ordR p).2.1 = (bestR p).2 ∧ partsOk p.1 = true) ∧
    ((firstE [checkProg keyR p, t24_0 (decide (((List.length p.1 : Nat) : Int) > (7 : Int))) 2] == 0) = false → (ordR p).1 = [] ∧ (ordR p).2.1 = 0) ∧ (ordR p).1.length ≤ 1000 := by
  have hw : t24_0 (decide (((List.length p.1 : Nat) : Int) > (7 : Int))) 2 = 0 := by rw [dF (by omega)]; rfl
  rw [hw, two_cases]
  unfold ordR
  rw [isKey_fun]
  by_cases h : checkProg keyR p = 0
  · have e : (checkProg keyR p != 0) = false := by rw [h]; rfl
    rw [e]
    obtain ⟨hk, hp⟩ := prog_ok h
    have hs := orders_same p hk
    have ht : okQ (tryS p) := tryF_ok p.1 p.2 hp p.1.length [] (false, p) (by simp; exact h5) rfl ⟨by show p.1.length ≤ 1000; omega, hp⟩
    refine ⟨rfl, fun _ => ⟨h, ?_, ?_, hp⟩, fun hn => (by cases hn), ?_⟩
    · show (ordS p).2.2.2 = keysI (tryS p).2.1; rw [hs]; rfl
    · show (ordS p).2.1 = longR (tryS p).2; rw [hs, long_eq]; rfl
    · show (ordS p).2.2.2.length ≤ 1000; rw [hs]; show (keysI (tryS p).2.1).length ≤ 1000; rw [keysI_len]; exact ht.1
  · have e : (checkProg keyR p != 0) = true := by simpa using h
    rw [e]
    refine ⟨rfl, fun hn => absurd (show checkProg keyR p = 0 by simpa using hn) h, fun _ => ⟨rfl, rfl⟩, by show 0 ≤ 1000; omega⟩
theorem half_facts (p : Prgm) : (halfP p).2.2 = firstE [checkProg keyR p, t24_0 (decide (((List.length p.1 : Nat) : Int) < (2 : Int))) 8] ∧
    ((firstE [checkProg keyR p, t24_0 (decide (((List.length p.1 : Nat) : Int) < (2 : Int))) 8] == 0) = true → (halfP p).1 = (halfR p).1 ∧ (halfP p).2.1 = (halfR p).2) ∧
    ((firstE [checkProg keyR p, t24_0 (decide (((List.length p.1 : Nat) : Int) < (2 : Int))) 8] == 0) = false → (halfP p).1 = 0 ∧ (halfP p).2.1 = 0) := by
  have hw : t24_0 (decide (((List.length p.1 : Nat) : Int) < (2 : Int))) 8 = cond (decide (((List.length p.1 : Nat) : Int) < (2 : Int))) 8 0 := rfl
  rw [hw, two_cases]
  unfold halfP
  rw [isKey_fun]
  cases hc : checkProg keyR p != 0 with
  | true =>
    have h : ¬ checkProg keyR p = 0 := by simpa using hc
    exact ⟨rfl, fun hn => absurd (show checkProg keyR p = 0 by simpa using hn) h, fun _ => ⟨rfl, rfl⟩⟩
  | false =>
    cases decide ((p.1.length : Int) < 2) with
    | true => exact ⟨rfl, fun hn => (by cases hn), fun _ => ⟨rfl, rfl⟩⟩
    | false => exact ⟨rfl, fun _ => ⟨rfl, rfl⟩, fun hn => (by cases hn)⟩

theorem r4 : R4 := by
  intro a0 _
  rw [f4_run]
  have hA : (atOk 2000 (0 : Int) && (5 : Int) == 5) = true := rfl
  obtain ⟨⟨s1, s2, s3⟩, _⟩ := aProg_spec a0 0 5 hA
  refine (condT hA).trans ?_
  generalize aProg a0 0 5 = P at s1 s2 s3 ⊢
  obtain ⟨a, p⟩ := P
  simp only at s1 s2 s3
  refine (condT (dT s3)).trans ?_
  obtain ⟨q1, q2, q3, q4⟩ := ord_facts p s3
  obtain ⟨u1, u2, u3⟩ := half_facts p
  refine (condT (dT (by simp))).trans ?_
  refine (condT (dT (by simp))).trans ?_
  have hO : (atOk 100 a && decide (0 ≤ ((p.1.length : Nat) : Int)) && decide (((p.1.length : Nat) : Int) ≤ 5)) = true := atOk_and (by omega) (by omega) (dT (by omega)) (dT (by omega))
  obtain ⟨⟨o1, o2, o3, o4⟩, _⟩ := aOrder_spec a0 a p.1.length hO
  have fin := law0 p s3 a0 (aOrder a0 a p.1.length).2 o4 (by rw [o3, Int.toNat_natCast]; exact s3) (aOrder a0 a p.1.length).1 (by omega) (by omega) (aOrder a0 a p.1.length).2.length 0 [] (Nat.zero_add _) rfl
  refine condB (fun h1 => ?_) (fun h1 => ?_)
  · obtain ⟨_, v1, v2, v3⟩ := q2 h1
    refine (condT (by rw [dT s3, v3]; rfl)).trans ?_
    refine condB (fun h2 => ?_) (fun h2 => ?_)
    · obtain ⟨w1, w2⟩ := u2 h2
      refine (condT (dT (by show p.1.length ≤ 1000; omega))).trans ?_
      refine (condF (bneF q1)).trans ?_
      refine (condT (dT q4)).trans ?_
      refine (condF (nbeqF v1)).trans ?_
      refine (condF (bneF v2)).trans ?_
      refine (condF (bneF u1)).trans ?_
      refine (condF (bneF w1)).trans ?_
      refine (condF (bneF w2)).trans ?_
      refine (condT hO).trans ?_
      exact fin
    · obtain ⟨w1, w2⟩ := u3 h2
      refine (condF (bneF q1)).trans ?_
      refine (condT (dT q4)).trans ?_
      refine (condF (nbeqF v1)).trans ?_
      refine (condF (bneF v2)).trans ?_
      refine (condF (bneF u1)).trans ?_
      refine (condF (bneF w1)).trans ?_
      refine (condF (bneF w2)).trans ?_
      refine (condT hO).trans ?_
      exact fin
  · obtain ⟨v1, v2⟩ := q3 h1
    refine condB (fun h2 => ?_) (fun h2 => ?_)
    · obtain ⟨w1, w2⟩ := u2 h2
      refine (condT (dT (by show p.1.length ≤ 1000; omega))).trans ?_
      refine (condF (bneF q1)).trans ?_
      refine (condT (dT q4)).trans ?_
      refine (condF (nbeqF v1)).trans ?_
      refine (condF (bneF v2)).trans ?_
      refine (condF (bneF u1)).trans ?_
      refine (condF (bneF w1)).trans ?_
      refine (condF (bneF w2)).trans ?_
      refine (condT hO).trans ?_
      exact fin
    · obtain ⟨w1, w2⟩ := u3 h2
      refine (condF (bneF q1)).trans ?_
      refine (condT (dT q4)).trans ?_
      refine (condF (nbeqF v1)).trans ?_
      refine (condF (bneF v2)).trans ?_
      refine (condF (bneF u1)).trans ?_
      refine (condF (bneF w1)).trans ?_
      refine (condF (bneF w2)).trans ?_
      refine (condT hO).trans ?_
      exact fin

end Go.Ev.M

namespace Go.Ev.M
open Go Go.Ev Go.Proofs
theorem e83 : EnvOk Tryd.prog En83 := sd83 e0 r83
theorem e41 : EnvOk Tryd.prog En41 := sd41 e83 r41
theorem e29 : EnvOk Tryd.prog En29 := sd29 e41 r29
theorem e30 : EnvOk Tryd.prog En30 := sd30 e29 r30
theorem e35 : EnvOk Tryd.prog En35 := sd35 e30 r35
theorem e40 : EnvOk Tryd.prog En40 := sd40 e35 r40
theorem e31 : EnvOk Tryd.prog En31 := sd31 e40 r31
theorem e42 : EnvOk Tryd.prog En42 := sd42 e31 r42
theorem e43 : EnvOk Tryd.prog En43 := sd43 e42 r43
theorem e6 : EnvOk Tryd.prog En6 := sd6 e43 r6
theorem e46 : EnvOk Tryd.prog En46 := sd46 e6 r46
theorem e86 : EnvOk Tryd.prog En86 := sd86 e46 r86
theorem e89 : EnvOk Tryd.prog En89 := sd89 e86 r89
theorem e54 : EnvOk Tryd.prog En54 := sd54 e89 r54
theorem e90 : EnvOk Tryd.prog En90 := sd90 e54 r90
theorem e88 : EnvOk Tryd.prog En88 := sd88 e90 r88
theorem e55 : EnvOk Tryd.prog En55 := sd55 e88 r55
theorem e56 : EnvOk Tryd.prog En56 := sd56 e55 r56
theorem e17 : EnvOk Tryd.prog En17 := sd17 e56 r17
theorem e11 : EnvOk Tryd.prog En11 := sd11 e17 r11
theorem e51 : EnvOk Tryd.prog En51 := sd51 e11 r51
theorem e88a : EnvOk Tryd.prog En88a := sd88a e51 r88a
theorem e50 : EnvOk Tryd.prog En50 := sd50 e88a r50
theorem e87 : EnvOk Tryd.prog En87 := sd87 e50 r87
theorem e49 : EnvOk Tryd.prog En49 := sd49 e87 r49
theorem e52 : EnvOk Tryd.prog En52 := sd52 e49 r52
theorem e53 : EnvOk Tryd.prog En53 := sd53 e52 r53
theorem e16 : EnvOk Tryd.prog En16 := sd16 e53 r16
theorem e18 : EnvOk Tryd.prog En18 := sd18 e16 r18
theorem e74 : EnvOk Tryd.prog En74 := sd74 e18 r74
theorem e85 : EnvOk Tryd.prog En85 := sd85 e74 r85
theorem e45 : EnvOk Tryd.prog En45 := sd45 e85 r45
theorem e9 : EnvOk Tryd.prog En9 := sd9 e45 r9
theorem e20 : EnvOk Tryd.prog En20 := sd20 e9 r20
theorem e97 : EnvOk Tryd.prog En97 := sd97 e20 r97
theorem e70 : EnvOk Tryd.prog En70 := sd70 e97 r70
theorem e108 : EnvOk Tryd.prog En108 := sd108 e70 r108
theorem e110 : EnvOk Tryd.prog En110 := sd110 e108 r110
theorem e93 : EnvOk Tryd.prog En93 := sd93 e110 r93
theorem e91 : EnvOk Tryd.prog En91 := sd91 e93 r91
theorem e60 : EnvOk Tryd.prog En60 := sd60 e91 r60
theorem e111 : EnvOk Tryd.prog En111 := sd111 e60 r111
theorem e95 : EnvOk Tryd.prog En95 := sd95 e111 r95
theorem e66 : EnvOk Tryd.prog En66 := sd66 e95 r66
theorem e61 : EnvOk Tryd.prog En61 := sd61 e66 r61
theorem e59 : EnvOk Tryd.prog En59 := sd59 e61 r59
theorem e58 : EnvOk Tryd.prog En58 := sd58 e59 r58
theorem e58a : EnvOk Tryd.prog En58a := sd58a e58 r58a
theorem e58b : EnvOk Tryd.prog En58b := sd58b e58a r58b
theorem e58c : EnvOk Tryd.prog En58c := sd58c e58b r58c
theorem e58d : EnvOk Tryd.prog En58d := sd58d e58c r58d
theorem e58e : EnvOk Tryd.prog En58e := sd58e e58d r58e
theorem e57 : EnvOk Tryd.prog En57 := sd57 e58e r57
theorem e21 : EnvOk Tryd.prog En21 := sd21 e57 r21
theorem e62 : EnvOk Tryd.prog En62 := sd62 e21 r62
theorem e22 : EnvOk Tryd.prog En22 := sd22 e62 r22
theorem e23 : EnvOk Tryd.prog En23 := sd23 e22 r23
theorem e24 : EnvOk Tryd.prog En24 := sd24 e23 r24
theorem e48 : EnvOk Tryd.prog En48 := sd48 e24 r48
theorem e15 : EnvOk Tryd.prog En15 := sd15 e48 r15
theorem e13 : EnvOk Tryd.prog En13 := sd13 e15 r13
theorem e109 : EnvOk Tryd.prog En109 := sd109 e13 r109
theorem e92 : EnvOk Tryd.prog En92 := sd92 e109 r92
theorem e64 : EnvOk Tryd.prog En64 := sd64 e92 r64
theorem e94 : EnvOk Tryd.prog En94 := sd94 e64 r94
theorem e110a : EnvOk Tryd.prog En110a := sd110a e94 r110a
theorem e93a : EnvOk Tryd.prog En93a := sd93a e110a r93a
theorem e65 : EnvOk Tryd.prog En65 := sd65 e93a r65
theorem e67 : EnvOk Tryd.prog En67 := sd67 e65 r67
theorem e63 : EnvOk Tryd.prog En63 := sd63 e67 r63
theorem e68 : EnvOk Tryd.prog En68 := sd68 e63 r68
theorem e68a : EnvOk Tryd.prog En68a := sd68a e68 r68a
theorem e68b : EnvOk Tryd.prog En68b := sd68b e68a r68b
theorem e68c : EnvOk Tryd.prog En68c := sd68c e68b r68c
theorem e68d : EnvOk Tryd.prog En68d := sd68d e68c r68d
theorem e68e : EnvOk Tryd.prog En68e := sd68e e68d r68e
theorem e25 : EnvOk Tryd.prog En25 := sd25 e68e r25
theorem e26 : EnvOk Tryd.prog En26 := sd26 e25 r26
theorem e27 : EnvOk Tryd.prog En27 := sd27 e26 r27
theorem e28 : EnvOk Tryd.prog En28 := sd28 e27 r28
theorem e96 : EnvOk Tryd.prog En96 := sd96 e28 r96
theorem e88b : EnvOk Tryd.prog En88b := sd88b e96 r88b
theorem e69 : EnvOk Tryd.prog En69 := sd69 e88b r69
theorem e71 : EnvOk Tryd.prog En71 := sd71 e69 r71
theorem e32 : EnvOk Tryd.prog En32 := sd32 e71 r32
theorem e33 : EnvOk Tryd.prog En33 := sd33 e32 r33
theorem e73 : EnvOk Tryd.prog En73 := sd73 e33 r73
theorem e72 : EnvOk Tryd.prog En72 := sd72 e73 r72
theorem e34 : EnvOk Tryd.prog En34 := sd34 e72 r34
theorem lawSound : Sound Tryd.prog En34.gl 4 S4 := law e34 r4
end Go.Ev.M

set_option linter.unusedSimpArgs false
set_option linter.unusedVariables false
namespace Go.Ev
open Go

/-! ### from a contract to a row -/
/-- A row of whole numbers in memory. -/
def IsRow (k : IntKind) (w : World) (a : Option Addr) (len cap : Nat) (zs : List Int) : Prop :=
  (a = none ∧ len = 0 ∧ cap = 0 ∧ zs = []) ∨
  ∃ x, a = some x ∧ len ≤ cap ∧ zs.length = cap ∧ (∀ i, i < zs.length → w.cell? (x.add i) = some (.int k (zs.getD i 0)))

/-- What is left as it was. -/
def Kept (W w' : World) : Prop := w'.os = W.os ∧ w'.output = W.output ∧ W.heap.size ≤ w'.heap.size ∧ ∀ b, b < W.heap.size → w'.heap[b]? = W.heap[b]?

theorem Kept.but {W w' : World} (h : Kept W w') (may : MemPlace → Prop) : W.keptBut w' may := by
  refine ⟨h.1, h.2.1, fun i hi => ?_⟩
  rw [h.2.2.2 i hi]
  split <;> simp_all

theorem Kept.same {W w' : World} (h : Kept W w') {p : MemPlace} (hp : p.block < W.heap.size) : W.sameAt w' p := by
  cases p with
  | cell b o => exact World.cell?_of_block (w := W) (h.2.2.2 b hp)
  | map b => exact h.2.2.2 b hp

theorem Kept.trod {H : Type} {enc : TypeId × Value → H} {P : Program} {t : TypeId} (hl : laidOutB P = true) (hr : P.readableRec t = true) (hrow : t < P.types.size) {W W' : World} {v : Value} {d : DataW H} {ps : List MemPlace}
    (h : DataW.Trod enc P W 0 (fun _ => true) true t v d ps) (hb : Kept W W') (hlt : ∀ x ∈ ps, x.block < W.heap.size) :
    DataW.Trod enc P W' 0 (fun b => decide (b < W.heap.size)) true t v d ps :=
  WideElems.Trod_stays hl hr hrow h (fun x hx => hb.same (hlt x hx)) (fun x hx => by simpa using hlt x hx)

theorem row_rel {W : World} {k : IntKind} {a : Option Addr} {len cap : Nat} {zs : List Int} (h : IsRow k W a len cap zs) :
    RelD (fun b => b < W.heap.size) W.heap (.slice (.int k)) (zs.take len) [.slice a len cap] := by
  rcases h with ⟨rfl, rfl, rfl, rfl⟩ | ⟨x, rfl, h1, h2, h3⟩
  · exact ⟨none, 0, rfl, by simp, fun i x hx => by simp at hx⟩
  · have hlen : (zs.take len).length = len := by rw [List.length_take]; omega
    refine ⟨some x, cap, by rw [hlen], by rw [hlen]; omega, fun i y hy => ?_⟩
    have hi : i < (zs.take len).length := (List.getElem?_eq_some_iff.1 hy).1
    rw [hlen] at hi
    have hc := h3 i (by omega)
    have hsp : x.spot = none := by
      have h4 := World.cell?_spot (h3 0 (by omega))
      rwa [show x.add 0 = x from if_pos rfl] at h4
    have hadd : x.add i = ⟨x.block, x.off + i, none⟩ := by
      obtain ⟨b, o, sp⟩ := x
      simp only at hsp
      subst hsp
      unfold Addr.add
      split
      · rename_i h0; simp [h0]
      · rfl
    rw [hadd, cell_at] at hc
    have hy2 : zs.getD i 0 = y := by
      rw [List.getElem?_take, if_pos hi] at hy
      rw [List.getD_eq_getElem?_getD, hy]; rfl
    refine ⟨x, rfl, hsp, ?_, [.int k y], rfl, fun j u hu => ?_⟩
    · unfold cellAt at hc
      split at hc
      · rename_i hb
        exact (Array.getElem?_eq_some_iff.1 hb).1
      · cases hc
    · have hj : j = 0 := by
        have := (List.getElem?_eq_some_iff.1 hu).1
        simpa using this
      subst hj
      simp at hu; subst hu
      rw [show (Tc.int k).size = 1 from rfl, Nat.mul_one, Nat.add_zero, hc, hy2]

/-- A law over numbers: it answers true, and leaves memory alone. -/
theorem law_calls {P : Program} {G : (Nat → Prop) → Array Obj → Prop} {f : FuncId} {s : Spec} (hs : Sound P G f s) {L : List Int} (hok : s.ok ⟨[.dat (.slice (.int .i64)) L], []⟩ = true) (hfn : s.fn ⟨[.dat (.slice (.int .i64)) L], []⟩ = some ⟨[.dat .bool true], []⟩)
    {W : World} {a : Option Addr} {len cap : Nat} (hG : G (fun b => b < W.heap.size) W.heap) (hr : RelD (fun b => b < W.heap.size) W.heap (.slice (.int .i64)) L [.slice a len cap]) :
    Calls P f #[.slice a len cap] W fun e w' => e = .returned (.bool true) ∧ Kept W w' := by
  have hcore : Core (Fr.reg ⟨[.dat (.slice (.int .i64)) L], []⟩) (fun _ => ⟨0, 0, 0, true, none⟩) (fun b => b < W.heap.size) W.heap :=
    ⟨fun k => trivial, fun k k' h => h.elim, fun k h => h.elim, fun b h => h⟩
  have hv : RelVs (view (Fr.reg ⟨[.dat (.slice (.int .i64)) L], []⟩) (fun _ => ⟨0, 0, 0, true, none⟩) (fun b => b < W.heap.size) W.heap) [.dat (.slice (.int .i64)) L] [.slice a len cap] :=
    ⟨_, _, rfl, hr, rfl⟩
  refine (hs _ _ hok hfn [.slice a len cap] W _ _ hcore hG hv).mono ?_
  rintro e w' ⟨u, rfl, hm, loc', S', hc, hle, hu⟩
  have hu' : [u] = [Value.bool true] := hu
  refine ⟨by simpa using hu', hm.1, hm.2, hc.keep.size, fun b hb => hc.keep.same b hb ?_⟩
  rintro ⟨k, hk, _⟩
  exact hk.elim
end Go.Ev
