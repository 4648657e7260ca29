import Derived.Test.YtpajbcpdhpnjlaaDoorA4
import Derived.Test.YtpajbcpdhpnjlaaDoorA3
import Derived.WalkKit
import Derived.ProofKit
import Derived.OpenShut
import Derived.ChangeOld
import Derived.Carry
import Derived.SizedLaws
set_option linter.unusedVariables false
set_option linter.unusedSimpArgs false
namespace Go.Ev.L
open Go Go.Ev Go.Proofs
theorem outside_false {n lo hi : Int} (h : outside n lo hi = false) : lo ≤ n ∧ n ≤ hi := by
  unfold outside at h
  simp at h
  omega
theorem go23 (xs : List Int) (hb : xs.length ≤ 1000) : ∀ (m i : Nat), i + m = xs.length →
    f23h0 xs xs.length i = some ⟨[.dat tI (firstE (xs.drop i))], []⟩ := by
  intro m
  induction m with
  | zero => intro i hi; rw [f23h0_eq, condF (dlt_not (by omega)), dnil (xs := xs) (i := i) (by omega)]; rfl
  | succ m ih =>
    intro i hi
    have hlt : i < xs.length := by omega
    rw [f23h0_eq]
    rw [condT (dT (by first | omega | (simp only [List.length_append, List.length_cons, List.length_nil, List.length_set, List.length_take, List.length_drop, List.length_map]; omega) | (simp; omega)))]
    rw [condT (dT (by first | omega | (simp only [List.length_append, List.length_cons, List.length_nil, List.length_set, List.length_take, List.length_drop, List.length_map]; omega) | (simp; omega)))]
    rw [condT (dT (by first | omega | (simp only [List.length_append, List.length_cons, List.length_nil, List.length_set, List.length_take, List.length_drop, List.length_map]; omega) | (simp; omega)))]
    rw [getN _ _ _ hlt, wsucc (by omega), ih (i + 1) (by omega), dcons hlt, firstE]
    show cond (!(xs[i] == 0)) _ _ = _
    cases xs[i] == 0 <;> rfl
theorem r23 : R23 := by
  intro a0 h
  simp only [decide_eq_true_eq] at h
  rw [f23_run]
  exact go23 a0 h a0.length 0 (by omega)

theorem go27 (a b : List Bytes) (hl : a.length = b.length) (hb : a.length ≤ 1000) : ∀ (m i : Nat), i + m = a.length → f27h0 a b a.length i = some ⟨[.dat .bool (a.drop i == b.drop i)], []⟩ := by
  intro m
  induction m with
  | zero => intro i hi; rw [f27h0_eq, dlt_not (by omega), dnil (xs := a) (by omega), dnil (xs := b) (by omega)]; rfl
  | succ m ih =>
    intro i hi
    have hlt : i < a.length := by omega
    have hlt' : i < b.length := by omega
    rw [f27h0_eq, dlt hlt, dlt hlt', dle0, getN _ _ _ hlt, getN _ _ _ hlt', wsucc (by omega), ih (i + 1) (by omega), dcons hlt, dcons hlt', List.cons_beq_cons]
    simp only [cond_true]
    cases a[i] == b[i] <;> rfl
theorem r27 : R27 := by
  intro a0 a1 h
  simp only [decide_eq_true_eq] at h
  rw [f27_run]
  cases hn : ((a0.length : Int) != (a1.length : Int)) with
  | true =>
    have : a0 ≠ a1 := by
      intro e; subst e; simp at hn
    have : (a0 == a1) = false := by simpa using this
    rw [this]; rfl
  | false =>
    have hl : a0.length = a1.length := by simp at hn; omega
    exact go27 a0 a1 hl h a0.length 0 (by omega)
theorem r57 : R57 := by
  intro a0 h
  simp only [decide_eq_true_eq] at h
  rw [f57_run, condT (dT (by simp; omega))]
  cases a0 with
  | nil => simp [both_self]
  | cons x l => simp

theorem go67 (xs : List Item) (hb : xs.length ≤ 1000) : ∀ (m i : Nat) (out : List Bytes), i + m = xs.length → out.length ≤ i →
    f67h0 xs xs.length i out = some ⟨[.dat (.slice .str) (out ++ (xs.drop i).map fun o => o.1)], []⟩ := by
  intro m
  induction m with
  | zero => intro i out hi ho; rw [f67h0_eq, condF (dlt_not (by omega)), dnil (xs := xs) (i := i) (by omega)]; simp
  | succ m ih =>
    intro i out hi ho
    have hlt : i < xs.length := by omega
    rw [f67h0_eq]
    rw [condT (dT (by first | omega | (simp only [List.length_append, List.length_cons, List.length_nil, List.length_set, List.length_take, List.length_drop, List.length_map]; omega) | (simp; omega)))]
    rw [condT (dT (by first | omega | (simp only [List.length_append, List.length_cons, List.length_nil, List.length_set, List.length_take, List.length_drop, List.length_map]; omega) | (simp; omega)))]
    rw [condT (dT (by first | omega | (simp only [List.length_append, List.length_cons, List.length_nil, List.length_set, List.length_take, List.length_drop, List.length_map]; omega) | (simp; omega)))]
    rw [getN _ _ _ hlt, condT (dT (by simp; omega)), wsucc (by omega), ih (i + 1) _ (by omega) (by simp; omega), dcons hlt, List.map_cons, List.append_assoc]; rfl
theorem r67 : R67 := by
  intro a0 h
  simp only [decide_eq_true_eq] at h
  rw [f67_run]
  exact go67 a0 h a0.length 0 [] (by omega) (by simp)

theorem cmpI_eq (x y : Int) : t92_0 x y = cmpI x y := by
  unfold t92_0 t92
  simp [t109_0, t109, cmpI]
theorem go64 (a b : List Int) (ha : a.length ≤ 1000) : ∀ (m i : Nat), i + m = a.length → i ≤ b.length →
    f64h0 a b a a.length i = some ⟨[.dat tI (cmpGo (a.drop i) (b.drop i))], []⟩ := by
  intro m
  induction m with
  | zero =>
    intro i hi hb
    rw [f64h0_eq, condF (dlt_not (by omega)), dnil (xs := a) (i := i) (by omega)]
    by_cases h : i < b.length
    · rw [condT (dT (by omega)), dcons h]; rfl
    · rw [condF (dF (by omega)), dnil (xs := b) (i := i) (by omega)]; rfl
  | succ m ih =>
    intro i hi hb
    have hlt : i < a.length := by omega
    rw [f64h0_eq]
    rw [condT (dT (by first | omega | (simp only [List.length_append, List.length_cons, List.length_nil, List.length_set, List.length_take, List.length_drop, List.length_map]; omega) | (simp; omega)))]
    rw [condT (dT (by first | omega | (simp only [List.length_append, List.length_cons, List.length_nil, List.length_set, List.length_take, List.length_drop, List.length_map]; omega) | (simp; omega)))]
    rw [condT (dT (by first | omega | (simp only [List.length_append, List.length_cons, List.length_nil, List.length_set, List.length_take, List.length_drop, List.length_map]; omega) | (simp; omega)))]
    by_cases h : i < b.length
    · rw [condF (dF (by omega))]
      rw [condT (dT (by first | omega | (simp only [List.length_append, List.length_cons, List.length_nil, List.length_set, List.length_take, List.length_drop, List.length_map]; omega) | (simp; omega)))]
      rw [condT (dT (by first | omega | (simp only [List.length_append, List.length_cons, List.length_nil, List.length_set, List.length_take, List.length_drop, List.length_map]; omega) | (simp; omega)))]
      rw [getN _ _ _ hlt, getN _ _ _ h, cmpI_eq, wsucc (by omega), ih (i + 1) (by omega) (by omega), dcons hlt, dcons h, cmpGo]
      show cond (!(cmpI a[i] b[i] == 0)) _ _ = _
      cases cmpI a[i] b[i] == 0 <;> rfl
    · rw [condT (dT (by omega)), dcons hlt, dnil (xs := b) (i := i) (by omega)]; rfl
theorem r64 : R64 := by
  intro a0 a1 h
  simp only [decide_eq_true_eq] at h
  rw [f64_run]
  exact go64 a0 a1 h a0.length 0 (by omega) (by omega)

/-! ### stable sorting of few -/
theorem swapG_eq {α : Type} (l : List α) (j : Nat) (h : j + 1 < l.length) : swapG l j = (l.set (j + 1) (l[j]'(by omega))).set j l[j + 1] := by
  unfold swapG
  rw [List.getElem?_eq_getElem (by omega), List.getElem?_eq_getElem h]
theorem ltG_eq {α : Type} (lt : α → α → Bool) (l : List α) (j : Nat) (h : j + 1 < l.length) : ltG lt l j = lt l[j + 1] (l[j]'(by omega)) := by
  unfold ltG
  rw [List.getElem?_eq_getElem h, List.getElem?_eq_getElem (show j < l.length by omega)]
theorem swapG_len {α : Type} (l : List α) (j : Nat) : (swapG l j).length = l.length := by
  unfold swapG
  cases l[j]? <;> cases l[j + 1]? <;> simp
theorem sinkG_len {α : Type} (lt : α → α → Bool) : ∀ (j : Nat) (l : List α), (sinkG lt j l).length = l.length
  | 0, l => rfl
  | j + 1, l => by
    unfold sinkG
    cases ltG lt l j with
    | true => rw [cond_true, sinkG_len lt j, swapG_len]
    | false => rfl
theorem sortGoG_len {α : Type} (lt : α → α → Bool) : ∀ (m i : Nat) (l : List α), (sortGoG lt m i l).length = l.length
  | 0, i, l => rfl
  | m + 1, i, l => by unfold sortGoG; rw [sortGoG_len lt m, sinkG_len]
theorem sortG_len {α : Type} (lt : α → α → Bool) (l : List α) : (sortG lt l).length = l.length := sortGoG_len _ _ _ _
theorem swapG_map {α β : Type} (f : α → β) (l : List α) (j : Nat) : swapG (l.map f) j = (swapG l j).map f := by
  unfold swapG
  rw [List.getElem?_map, List.getElem?_map]
  cases l[j]? <;> cases l[j + 1]? <;> simp [List.map_set]
theorem ltG_map {α β : Type} (f : α → β) (lt : α → α → Bool) (lt' : β → β → Bool) (h : ∀ a b, lt' (f a) (f b) = lt a b) (l : List α) (j : Nat) : ltG lt' (l.map f) j = ltG lt l j := by
  unfold ltG
  rw [List.getElem?_map, List.getElem?_map]
  cases l[j]? <;> cases l[j + 1]? <;> simp [h]
theorem sinkG_map {α β : Type} (f : α → β) (lt : α → α → Bool) (lt' : β → β → Bool) (h : ∀ a b, lt' (f a) (f b) = lt a b) : ∀ (j : Nat) (l : List α), sinkG lt' j (l.map f) = (sinkG lt j l).map f
  | 0, l => rfl
  | j + 1, l => by
    unfold sinkG
    rw [ltG_map f lt lt' h, swapG_map, sinkG_map f lt lt' h j]
    cases ltG lt l j <;> rfl
theorem sortGoG_map {α β : Type} (f : α → β) (lt : α → α → Bool) (lt' : β → β → Bool) (h : ∀ a b, lt' (f a) (f b) = lt a b) : ∀ (m i : Nat) (l : List α), sortGoG lt' m i (l.map f) = (sortGoG lt m i l).map f
  | 0, i, l => rfl
  | m + 1, i, l => by unfold sortGoG; rw [sinkG_map f lt lt' h, sortGoG_map f lt lt' h m]
theorem sortG_map {α β : Type} (f : α → β) (lt : α → α → Bool) (lt' : β → β → Bool) (h : ∀ a b, lt' (f a) (f b) = lt a b) (l : List α) : sortG lt' (l.map f) = (sortG lt l).map f := by
  unfold sortG
  rw [List.length_map, sortGoG_map f lt lt' h]

theorem sink112 (n i : Int) : ∀ (j : Nat) (l : List Again), j < l.length → l.length ≤ 12 →
    f112h2 0 n i j l = f112h0 0 n (wrap .i64 (i + 1)) (sinkG (fun u v => decide (t76_0 u v < 0)) j l)
  | 0, l, hj, hl => by rw [f112h2_eq, condF (by simp)]; rfl
  | j + 1, l, hj, hl => by
    have e : wrap .i64 (((j + 1 : Nat) : Int) - 1) = ((j : Nat) : Int) := by rw [wrap_in (by omega) (by omega)]; omega
    rw [f112h2_eq, condT (dT (by omega)), e]
    rw [condT (dT (by first | omega | (simp only [List.length_append, List.length_cons, List.length_nil, List.length_set, List.length_take, List.length_drop, List.length_map]; omega) | (simp; omega)))]
    rw [condT (dT (by first | omega | (simp only [List.length_append, List.length_cons, List.length_nil, List.length_set, List.length_take, List.length_drop, List.length_map]; omega) | (simp; omega)))]
    rw [condT (dT (by first | omega | (simp only [List.length_append, List.length_cons, List.length_nil, List.length_set, List.length_take, List.length_drop, List.length_map]; omega) | (simp; omega)))]
    rw [condT (dT (by first | omega | (simp only [List.length_append, List.length_cons, List.length_nil, List.length_set, List.length_take, List.length_drop, List.length_map]; omega) | (simp; omega)))]
    rw [condT (dT (by first | omega | (simp only [List.length_append, List.length_cons, List.length_nil, List.length_set, List.length_take, List.length_drop, List.length_map]; omega) | (simp; omega)))]
    rw [condT (dT (by first | omega | (simp only [List.length_append, List.length_cons, List.length_nil, List.length_set, List.length_take, List.length_drop, List.length_map]; omega) | (simp; omega)))]
    rw [getN _ _ _ hj, getN l j (Tc.dflt tAgain) (by omega), sinkG, ltG_eq _ _ _ hj]
    cases h : decide (t76_0 l[j + 1] (l[j]'(by omega)) < 0) with
    | false => rw [cond_false, cond_false]
    | true =>
      rw [cond_true, cond_true, swapG_eq _ _ hj]
      repeat (rw [condT (dT (by first | omega | (simp only [List.length_append, List.length_cons, List.length_nil, List.length_set, List.length_take, List.length_drop, List.length_map]; omega) | (simp; omega)))])
      exact sink112 n i j _ (by simp; omega) (by simp; omega)
theorem go112 : ∀ (m i : Nat) (l : List Again), i + m = l.length → l.length ≤ 12 →
    f112h0 0 l.length i l = some ⟨[], [(0, .arr tAgain (sortGoG (fun u v => decide (t76_0 u v < 0)) m i l))]⟩
  | 0, i, l, hi, hl => by rw [f112h0_eq, condF (dlt_not (by omega))]; rfl
  | m + 1, i, l, hi, hl => by
    rw [f112h0_eq, condT (dlt (by omega)), sink112 _ _ i l (by omega) hl, wsucc (by omega)]
    have := go112 m (i + 1) (sinkG (fun u v => decide (t76_0 u v < 0)) i l) (by rw [sinkG_len]; omega) (by rw [sinkG_len]; omega)
    rw [sinkG_len] at this
    exact this
theorem r112 : R112 := by
  intro a b a0 h
  simp only [Bool.and_eq_true, decide_eq_true_eq, beq_iff_eq] at h
  obtain ⟨⟨h1, rfl⟩, rfl⟩ := h
  rw [f112_run]
  have e : wrap .i64 ((0 : Int) + 1) = ((1 : Nat) : Int) := rfl
  rw [e]
  unfold sortG
  by_cases h0 : a0.length = 0
  · have : a0 = [] := List.length_eq_zero_iff.1 h0
    subst this
    rw [f112h0_eq, condF (by simp)]
    rfl
  · exact go112 (a0.length - 1) 1 a0 (by omega) h1
theorem r98 : R98 := by
  intro n a0 h
  simp only [Bool.and_eq_true, decide_eq_true_eq, beq_iff_eq] at h
  obtain ⟨h1, rfl⟩ := h
  rw [f98_run, f98h0_eq, condF (dF (by omega)), condT (by simp; omega), f98h2_eq, condF (dF (by omega))]
theorem r75 : R75 := by
  intro a0 h
  simp only [decide_eq_true_eq] at h
  rw [f75_run, condT (by simp; omega)]

theorem sink114 (lk lp : Bytes) (ll : Int) (lps : List Bytes) (its : List Item) (c1 c2 c3 c4 : Int) (n i : Int) : ∀ (j : Nat) (l : List Item), j < l.length → l.length ≤ 12 →
    f114h2 0 n i j l lk lp ll lps its c1 c2 c3 c4 = f114h0 0 n (wrap .i64 (i + 1)) (sinkG (fun u v => decide (t81_0 u v lk lp ll lps its c1 c2 c3 c4 < 0)) j l) lk lp ll lps its c1 c2 c3 c4
  | 0, l, hj, hl => by rw [f114h2_eq, condF (by simp)]; rfl
  | j + 1, l, hj, hl => by
    have e : wrap .i64 (((j + 1 : Nat) : Int) - 1) = ((j : Nat) : Int) := by rw [wrap_in (by omega) (by omega)]; omega
    rw [f114h2_eq, condT (dT (by omega)), e]
    rw [condT (dT (by first | omega | (simp only [List.length_append, List.length_cons, List.length_nil, List.length_set, List.length_take, List.length_drop, List.length_map]; omega) | (simp; omega)))]
    rw [condT (dT (by first | omega | (simp only [List.length_append, List.length_cons, List.length_nil, List.length_set, List.length_take, List.length_drop, List.length_map]; omega) | (simp; omega)))]
    rw [condT (dT (by first | omega | (simp only [List.length_append, List.length_cons, List.length_nil, List.length_set, List.length_take, List.length_drop, List.length_map]; omega) | (simp; omega)))]
    rw [condT (dT (by first | omega | (simp only [List.length_append, List.length_cons, List.length_nil, List.length_set, List.length_take, List.length_drop, List.length_map]; omega) | (simp; omega)))]
    rw [condT (dT (by first | omega | (simp only [List.length_append, List.length_cons, List.length_nil, List.length_set, List.length_take, List.length_drop, List.length_map]; omega) | (simp; omega)))]
    rw [condT (dT (by first | omega | (simp only [List.length_append, List.length_cons, List.length_nil, List.length_set, List.length_take, List.length_drop, List.length_map]; omega) | (simp; omega)))]
    rw [getN _ _ _ hj, getN l j (Tc.dflt tItem) (by omega), sinkG, ltG_eq _ _ _ hj]
    cases h : decide (t81_0 l[j + 1] (l[j]'(by omega)) lk lp ll lps its c1 c2 c3 c4 < 0) with
    | false => rw [cond_false, cond_false]
    | true =>
      rw [cond_true, cond_true, swapG_eq _ _ hj]
      repeat (rw [condT (dT (by first | omega | (simp only [List.length_append, List.length_cons, List.length_nil, List.length_set, List.length_take, List.length_drop, List.length_map]; omega) | (simp; omega)))])
      exact sink114 lk lp ll lps its c1 c2 c3 c4 n i j _ (by simp; omega) (by simp; omega)
theorem go114 (lk lp : Bytes) (ll : Int) (lps : List Bytes) (its : List Item) (c1 c2 c3 c4 : Int) : ∀ (m i : Nat) (l : List Item), i + m = l.length → l.length ≤ 12 →
    f114h0 0 l.length i l lk lp ll lps its c1 c2 c3 c4 = some ⟨[], [(0, .arr tItem (sortGoG (fun u v => decide (t81_0 u v lk lp ll lps its c1 c2 c3 c4 < 0)) m i l)), (1, .box [.clos 77 [.ptr 2 0, .ptr 3 0]]), (2, .box [.dat .str lk, .dat .str lp, .dat tI ll, .dat (.slice .str) lps]), (3, .box [.dat (.slice tItem) its, .dat tI c1, .dat tI c2, .dat tI c3, .dat tI c4])]⟩
  | 0, i, l, hi, hl => by rw [f114h0_eq, condF (dlt_not (by omega))]; rfl
  | m + 1, i, l, hi, hl => by
    rw [f114h0_eq, condT (dlt (by omega)), sink114 _ _ _ _ _ _ _ _ _ _ _ i l (by omega) hl, wsucc (by omega)]
    have := go114 lk lp ll lps its c1 c2 c3 c4 m (i + 1) (sinkG (fun u v => decide (t81_0 u v lk lp ll lps its c1 c2 c3 c4 < 0)) i l) (by rw [sinkG_len]; omega) (by rw [sinkG_len]; omega)
    rw [sinkG_len] at this
    exact this
theorem r114 : R114 := by
  intro a b a0 lk lp ll lps its c1 c2 c3 c4 h
  simp only [Bool.and_eq_true, decide_eq_true_eq, beq_iff_eq] at h
  obtain ⟨⟨h1, rfl⟩, rfl⟩ := h
  rw [f114_run]
  have e : wrap .i64 ((0 : Int) + 1) = ((1 : Nat) : Int) := rfl
  rw [e]
  unfold sortG
  by_cases h0 : a0.length = 0
  · have : a0 = [] := List.length_eq_zero_iff.1 h0
    subst this
    rw [f114h0_eq, condF (by simp)]
    rfl
  · exact go114 lk lp ll lps its c1 c2 c3 c4 (a0.length - 1) 1 a0 (by omega) h1
theorem r99 : R99 := by
  intro n a0 lk lp ll lps its c1 c2 c3 c4 h
  simp only [Bool.and_eq_true, decide_eq_true_eq, beq_iff_eq] at h
  obtain ⟨h1, rfl⟩ := h
  rw [f99_run, f99h0_eq, condF (dF (by omega)), condT (by simp; omega), f99h2_eq, condF (dF (by omega))]
theorem r80 : R80 := by
  intro a0 lk lp ll lps its c1 c2 c3 c4 h
  simp only [decide_eq_true_eq] at h
  rw [f80_run, condT (by simp; omega)]

/-! ### what is left of a slice -/
theorem idxBy_split {α : Type} (p : α → Bool) : ∀ (l : List α) (s : Nat), (idxBy p l s = -1 ∧ l.filter (fun o => !p o) = l) ∨
    ∃ n, n < l.length ∧ idxBy p l s = ((s + n : Nat) : Int) ∧ l.take n ++ (l.drop (n + 1)).filter (fun o => !p o) = l.filter (fun o => !p o)
  | [], s => .inl ⟨rfl, rfl⟩
  | x :: l, s => by
    cases hx : p x with
    | true => exact .inr ⟨0, by simp, by simp [idxBy, hx], by simp [hx]⟩
    | false =>
      rcases idxBy_split p l (s + 1) with ⟨h1, h2⟩ | ⟨n, h1, h2, h3⟩
      · refine .inl ⟨?_, ?_⟩
        · simp only [idxBy, hx, cond_false]; exact h1
        · rw [List.filter_cons, hx]; simp only [Bool.not_false, if_true]; rw [h2]
      · refine .inr ⟨n + 1, by simp; omega, ?_, ?_⟩
        · simp only [idxBy, hx, cond_false]; rw [h2]; congr 1; omega
        · rw [List.take_succ_cons, List.drop_succ_cons, List.filter_cons, hx]; simp only [Bool.not_false, if_true]; rw [← h3]; rfl
theorem go88b (lf : Int) (lk lp : Bytes) (ll : Int) (lps : List Bytes) (its : List Item) (c1 c2 c3 c4 : Int) (xs : List Item) (hb : xs.length ≤ 1000) : ∀ (m i : Nat), i + m = xs.length →
    f88bh0 xs.length i xs lf lk lp ll lps its c1 c2 c3 c4 = some ⟨[.dat tI (idxBy (fun o => t79_0 o lf lk lp ll lps its c1 c2 c3 c4) (xs.drop i) i)], [(0, .arr tItem xs), (1, .box [.clos 77 [.ptr 3 0, .ptr 4 0]]), (2, .box [.dat tI lf]), (3, .box [.dat .str lk, .dat .str lp, .dat tI ll, .dat (.slice .str) lps]), (4, .box [.dat (.slice tItem) its, .dat tI c1, .dat tI c2, .dat tI c3, .dat tI c4])]⟩ := by
  intro m
  induction m with
  | zero => intro i hi; rw [f88bh0_eq, condF (dlt_not (by omega)), dnil (xs := xs) (i := i) (by omega)]; rfl
  | succ m ih =>
    intro i hi
    have hlt : i < xs.length := by omega
    rw [f88bh0_eq]
    rw [condT (dT (by first | omega | (simp only [List.length_append, List.length_cons, List.length_nil, List.length_set, List.length_take, List.length_drop, List.length_map]; omega) | (simp; omega)))]
    rw [condT (dT (by first | omega | (simp only [List.length_append, List.length_cons, List.length_nil, List.length_set, List.length_take, List.length_drop, List.length_map]; omega) | (simp; omega)))]
    rw [condT (dT (by first | omega | (simp only [List.length_append, List.length_cons, List.length_nil, List.length_set, List.length_take, List.length_drop, List.length_map]; omega) | (simp; omega)))]
    rw [condT (dT (by first | omega | (simp only [List.length_append, List.length_cons, List.length_nil, List.length_set, List.length_take, List.length_drop, List.length_map]; omega) | (simp; omega)))]
    rw [getN _ _ _ hlt, wsucc (by omega), ih (i + 1) (by omega), dcons hlt]
    simp only [idxBy]
    cases t79_0 xs[i] lf lk lp ll lps its c1 c2 c3 c4 <;> rfl
theorem r88b : R88b := by
  intro a0 lf lk lp ll lps its c1 c2 c3 c4 h
  simp only [decide_eq_true_eq] at h
  rw [f88b_run]
  exact go88b lf lk lp ll lps its c1 c2 c3 c4 a0 h a0.length 0 (by omega)
theorem eta_i (x : Item) : ((x.1, (x.2.1, (x.2.2.1, x.2.2.2))) : Item) = x := rfl
theorem go78 (lf : Int) (lk lp : Bytes) (ll : Int) (lps : List Bytes) (its : List Item) (c1 c2 c3 c4 : Int) : ∀ (m i j : Nat) (s : List Item), j + m = s.length → i < j → s.length ≤ 1000 →
    f78h0 i j s lf lk lp ll lps its c1 c2 c3 c4 = some ⟨[.slc 10], [(0, .dead), (1, .box [.clos 77 [.ptr 3 0, .ptr 4 0]]), (2, .box [.dat tI lf]), (3, .box [.dat .str lk, .dat .str lp, .dat tI ll, .dat (.slice .str) lps]), (4, .box [.dat (.slice tItem) its, .dat tI c1, .dat tI c2, .dat tI c3, .dat tI c4]),
      (10, .arr tItem (s.take i ++ (s.drop j).filter (fun o => !t79_0 o lf lk lp ll lps its c1 c2 c3 c4)))]⟩
  | 0, i, j, s, hm, hij, hl => by
    rw [f78h0_eq, condF (dlt_not (by omega)), dnil (xs := s) (i := j) (by omega)]
    repeat (rw [condT (dT (by first | omega | (simp only [List.length_append, List.length_cons, List.length_nil, List.length_set, List.length_take, List.length_drop, List.length_map]; omega) | (simp; omega)))])
    simp only [List.filter_nil, List.append_nil, Int.toNat_natCast, Int.toNat_zero, List.drop_zero]
    rw [List.take_left' (l₁ := s.take i) (by rw [List.length_take]; omega)]
  | m + 1, i, j, s, hm, hij, hl => by
    have hlt : j < s.length := by omega
    rw [f78h0_eq]
    rw [condT (dT (by first | omega | (simp only [List.length_append, List.length_cons, List.length_nil, List.length_set, List.length_take, List.length_drop, List.length_map]; omega) | (simp; omega)))]
    rw [condT (dT (by first | omega | (simp only [List.length_append, List.length_cons, List.length_nil, List.length_set, List.length_take, List.length_drop, List.length_map]; omega) | (simp; omega)))]
    rw [condT (dT (by first | omega | (simp only [List.length_append, List.length_cons, List.length_nil, List.length_set, List.length_take, List.length_drop, List.length_map]; omega) | (simp; omega)))]
    rw [condT (dT (by first | omega | (simp only [List.length_append, List.length_cons, List.length_nil, List.length_set, List.length_take, List.length_drop, List.length_map]; omega) | (simp; omega)))]
    rw [getN _ _ _ hlt, eta_i, wsucc (i := j) (by omega), dcons hlt, List.filter_cons]
    cases hp : t79_0 s[j] lf lk lp ll lps its c1 c2 c3 c4 with
    | true =>
      simp only [Bool.not_true, cond_false]
      exact go78 lf lk lp ll lps its c1 c2 c3 c4 m i (j + 1) s (by omega) (by omega) hl
    | false =>
      simp only [Bool.not_false, cond_true, if_true]
      repeat (rw [condT (dT (by first | omega | (simp only [List.length_append, List.length_cons, List.length_nil, List.length_set, List.length_take, List.length_drop, List.length_map]; omega) | (simp; omega)))])
      rw [wsucc (by omega), Int.toNat_natCast]
      have e1 : (s.set i s[j]).drop (j + 1) = s.drop (j + 1) := List.drop_set_of_lt (by omega)
      have e2 : (s.set i s[j]).take (i + 1) = s.take i ++ [s[j]] := by
        rw [List.take_add_one, List.take_set_of_le (Nat.le_refl i), List.getElem?_set_self (by omega)]; rfl
      rw [go78 lf lk lp ll lps its c1 c2 c3 c4 m (i + 1) (j + 1) (s.set i s[j]) (by rw [List.length_set]; omega) (by omega) (by rw [List.length_set]; omega), e1, e2, List.append_assoc]; rfl
theorem r78 : R78 := by
  intro a0 lf lk lp ll lps its c1 c2 c3 c4 h
  have h' := h
  simp only [decide_eq_true_eq] at h
  rw [f78_run, condT h']
  rcases idxBy_split (fun o => t79_0 o lf lk lp ll lps its c1 c2 c3 c4) a0 0 with ⟨e1, e2⟩ | ⟨n, hn, e1, e2⟩
  · rw [e1, e2]; rfl
  · rw [e1, condF (by rw [beq_eq_false_iff_ne]; omega), wsucc (by omega), Nat.zero_add, ← e2]
    exact go78 lf lk lp ll lps its c1 c2 c3 c4 (a0.length - (n + 1)) n (n + 1) a0 (by omega) (by omega) h

end Go.Ev.L

set_option linter.unusedVariables false
set_option linter.unusedSimpArgs false
namespace Go.Ev.L
open Go Go.Ev Go.Proofs
theorem wrap_l (x y : Int) : wrap .i64 (wrap .i64 x + y) = wrap .i64 (x + y) := by
  simp only [wrap, IntKind.wrap_i64]
  omega
theorem long_last (p : Prgm) : ∀ (l : List Item) (x : Item) (i a : Int), ∃ t, (timGo p i a (x :: l)).getLast? = some t ∧ t.2.2 = (begGo p i a (x :: l)).2
  | [], x, i, a => ⟨_, rfl, rfl⟩
  | y :: l, x, i, a => by
    obtain ⟨t, h1, h2⟩ := long_last p l y (i + 1) (wrap .i64 (wrap .i64 (a + x.2.2.1) + gapAt p i x y))
    refine ⟨t, ?_, h2⟩
    simp only [timGo]
    rw [List.getLast?_cons, h1]; rfl
theorem long_eq (p : Prgm) : longR p = (begGo p 0 0 p.1).2 := by
  unfold longR
  cases p.1 with
  | nil => rfl
  | cons x l =>
    obtain ⟨t, h1, h2⟩ := long_last p l x 0 0
    rw [h1]; exact h2

/-! ### encores -/
theorem eta_pr (p : Prgm) : ((p.1, (p.2.1, (p.2.2.1, (p.2.2.2.1, p.2.2.2.2)))) : Prgm) = p := rfl
theorem enc_n (p : Prgm) (x : Item) : wrap .i64 (t74_0 p (lastI p) x + x.2.2.1) = encL p x := by
  unfold t74_0 t74 encL
  have e : ((lastI p).2.1 == x.2.1) = (x.2.1 == (lastI p).2.1) := by
    rw [Bool.eq_iff_iff, beq_iff_eq, beq_iff_eq]; exact eq_comm
  rw [e]
  cases x.2.1 == (lastI p).2.1 with
  | true => show wrap .i64 (p.2.2.1 + x.2.2.1) = wrap .i64 (x.2.2.1 + p.2.2.1); rw [Int.add_comm]
  | false => show wrap .i64 (p.2.1 + x.2.2.1) = wrap .i64 (x.2.2.1 + p.2.1); rw [Int.add_comm]
theorem last_ix (p : Prgm) (h : 0 < p.1.length) (h5 : p.1.length ≤ 5) : List.getD p.1 (Int.toNat (wrap .i64 (((List.length p.1 : Nat) : Int) - (1 : Int)))) (Tc.dflt tItem) = lastI p := by
  rw [wrap_in (by omega) (by omega)]
  have e : Int.toNat ((p.1.length : Int) - 1) = p.1.length - 1 := by omega
  rw [e]; rfl

theorem keys37 : ∀ (m i : Nat) (xs : List Again) (out : List Bytes), i + m = xs.length → out.length ≤ i → xs.length ≤ 1000 →
    f37h2 xs.length i out xs = some ⟨[.dat (.slice .str) (out ++ (xs.drop i).map fun o => o.1), .dat tI 0], []⟩
  | 0, i, xs, out, hi, ho, hb => by rw [f37h2_eq, condF (dlt_not (by omega)), dnil (xs := xs) (i := i) (by omega)]; simp
  | m + 1, i, xs, out, hi, ho, hb => by
    have hlt : i < xs.length := by omega
    rw [f37h2_eq]
    rw [condT (dT (by first | omega | (simp only [List.length_append, List.length_cons, List.length_nil, List.length_set, List.length_take, List.length_drop, List.length_map]; omega) | (simp; omega)))]
    rw [condT (dT (by first | omega | (simp only [List.length_append, List.length_cons, List.length_nil, List.length_set, List.length_take, List.length_drop, List.length_map]; omega) | (simp; omega)))]
    rw [condT (dT (by first | omega | (simp only [List.length_append, List.length_cons, List.length_nil, List.length_set, List.length_take, List.length_drop, List.length_map]; omega) | (simp; omega)))]
    rw [condT (dT (by first | omega | (simp only [List.length_append, List.length_cons, List.length_nil, List.length_set, List.length_take, List.length_drop, List.length_map]; omega) | (simp; omega)))]
    rw [getN _ _ _ hlt, condT (dT (by simp; omega)), wsucc (by omega), keys37 m (i + 1) xs _ (by omega) (by simp; omega) hb, dcons hlt, List.map_cons, List.append_assoc]; rfl

def fA (p : Prgm) (x : Item) : Again := (x.1, encL p x)
theorem dle_not (a b : Int) : decide (a ≤ b) = !decide (a > b) := by
  by_cases h : a ≤ b
  · rw [dT h, dF (p := a > b) (by omega)]; rfl
  · rw [dF h, dT (p := a > b) (by omega)]; rfl
theorem go37 (p : Prgm) (left : Int) (h5 : p.1.length ≤ 5) : ∀ (m i : Nat) (out : List Again), i + m = p.1.length → out.length ≤ i →
    f37h0 left p.1 p.1.length i p.1 p.2.1 p.2.2.1 p.2.2.2.1 p.2.2.2.2 (lastI p).1 (lastI p).2.1 (lastI p).2.2.1 (lastI p).2.2.2 out =
      some ⟨[.dat (.slice .str) ((sortG (fun u v => decide (t76_0 u v < 0)) (out ++ ((p.1.drop i).filter fun x => !decide (encL p x > left)).map (fA p))).map fun o => o.1), .dat tI 0], []⟩ := by
  intro m
  induction m with
  | zero =>
    intro i out hi ho
    rw [f37h0_eq, condF (dlt_not (by omega)), dnil (xs := p.1) (i := i) (by omega), condT (dT (by omega))]
    have := keys37 (sortG (fun u v => decide (t76_0 u v < 0)) out).length 0 _ [] (Nat.zero_add _) (by simp) (by rw [sortG_len]; omega)
    refine this.trans ?_
    simp
  | succ m ih =>
    intro i out hi ho
    have hlt : i < p.1.length := by omega
    rw [f37h0_eq]
    rw [condT (dT (by first | omega | (simp only [List.length_append, List.length_cons, List.length_nil, List.length_set, List.length_take, List.length_drop, List.length_map]; omega) | (simp; omega)))]
    rw [condT (dT (by first | omega | (simp only [List.length_append, List.length_cons, List.length_nil, List.length_set, List.length_take, List.length_drop, List.length_map]; omega) | (simp; omega)))]
    rw [condT (dT (by first | omega | (simp only [List.length_append, List.length_cons, List.length_nil, List.length_set, List.length_take, List.length_drop, List.length_map]; omega) | (simp; omega)))]
    rw [getN _ _ _ hlt, eta_pr, eta_i, eta_i, enc_n, wsucc (by omega), dcons hlt, List.filter_cons, dle_not]
    cases h : decide (encL p p.1[i] > left) with
    | true =>
      simp only [Bool.not_true, cond_false]
      rw [ih (i + 1) out (by omega) (by omega)]; rfl
    | false =>
      simp only [Bool.not_false, cond_true, if_true]
      rw [condT (dT (by simp; omega)), ih (i + 1) _ (by omega) (by simp; omega), List.map_cons, List.append_assoc]; rfl
theorem enc_keys (p : Prgm) (l : List Item) : ((sortG (fun u v => decide (t76_0 u v < 0)) (l.map (fA p))).map fun o => o.1) = (sortG (encLt p) l).map fun o => o.1 := by
  rw [sortG_map (fA p) (encLt p) _ (fun a b => rfl), List.map_map]; rfl
theorem r37 : R37 := by
  intro a0 a1 h
  simp only [decide_eq_true_eq] at h
  rw [f37_run, eta_pr]
  unfold encF
  cases checkProg isKey a0 != 0 with
  | true => rfl
  | false =>
    cases outside a1 0 86400000 with
    | true => rfl
    | false =>
      cases hz : (a0.1.length : Int) == 0 with
      | true => rfl
      | false =>
        have hn : 0 < a0.1.length := by have := beq_eq_false_iff_ne.1 hz; omega
        rw [last_ix a0 hn h]
        simp only [cond_false]
        rw [wrap_in (by omega) (by omega), condT (dT (by omega)), condT (dT (by omega))]
        have := go37 a0 a1 h a0.1.length 0 [] (Nat.zero_add _) (by simp)
        rw [show (0 : Int) = ((0 : Nat) : Int) from rfl, this]
        rw [List.nil_append, List.drop_zero, enc_keys]; rfl

theorem sign_lt (n : Int) : decide (t82_0 n < 0) = decide (n < 0) := by
  unfold t82_0 t82
  by_cases h : n < 0
  · rw [dT h]; rfl
  · rw [dF h]
    by_cases h2 : n > 0
    · rw [dT h2]; rfl
    · rw [dF h2]; rfl
theorem r39 : R39 := by
  intro a0 a1 h
  simp only [Bool.and_eq_true, decide_eq_true_eq] at h
  rw [f39_run, last_ix a0 h.2 h.1]
  have e1 : (fun o => !t79_0 o a1 (lastI a0).1 (lastI a0).2.1 (lastI a0).2.2.1 (lastI a0).2.2.2 a0.1 a0.2.1 a0.2.2.1 a0.2.2.2.1 a0.2.2.2.2) = fun x => !decide (encL a0 x > a1) := rfl
  have e2 : (fun u v => decide (t81_0 u v (lastI a0).1 (lastI a0).2.1 (lastI a0).2.2.1 (lastI a0).2.2.2 a0.1 a0.2.1 a0.2.2.1 a0.2.2.2.1 a0.2.2.2.2 < 0)) = encLt a0 := by
    funext u v
    exact sign_lt _
  rw [e1, e2]
  have hf : (a0.1.filter fun x => !decide (encL a0 x > a1)).length ≤ a0.1.length := List.length_filter_le _ _
  have hlen := sortG_len (encLt a0) (a0.1.filter fun x => !decide (encL a0 x > a1))
  rw [wrap_in (by omega) (by omega), condT (dT (by omega)), condT (dT (by omega)), condT (dT (by omega)), condT (dT (by omega)), condT (dT (by omega)), condT (dT (by omega))]
  rfl

/-! ### as many as fit -/
theorem long_of (p : Prgm) (its : List Item) (h : its.length ≤ 1000) : t62_ok p its = true ∧ t62_0 p its = fitL p its := by
  unfold t62_ok t62_0 t62
  rw [dT h]; exact ⟨rfl, rfl⟩
theorem fit_tree {best pl : List Int} {longest most L : Int} (hb : best.length ≤ 1000) (hl : pl.length ≤ 1000) (A B : Option Fr) :
    cond (decide (L ≤ most)) (cond (decide ((wrap .i64 (((List.length pl : Nat) : Int) - ((List.length best : Nat) : Int))) > (0 : Int))) A (cond ((wrap .i64 (((List.length pl : Nat) : Int) - ((List.length best : Nat) : Int))) == (0 : Int)) (cond (decide (L > longest)) A (cond (L == longest) (cond (decide (List.length pl ≤ 1000)) (cond (decide ((cmpGo pl best) < (0 : Int))) A B) none) B)) B)) B = cond (fitB best longest most pl L) A B := by
  unfold fitB
  rw [wrap_in (by omega) (by omega), dT hl, cond_true]
  cases decide (L ≤ most) with
  | false => rfl
  | true =>
    by_cases h1 : best.length < pl.length
    · rw [dT (p := (pl.length : Int) - best.length > 0) (by omega), dT h1]; rfl
    · rw [dF (p := (pl.length : Int) - best.length > 0) (by omega), dF h1]
      by_cases h2 : pl.length = best.length
      · have : ((pl.length : Int) - best.length == 0) = true := by rw [beq_iff_eq]; omega
        rw [this, dT h2]
        cases decide (L > longest) <;> cases L == longest <;> cases decide (cmpGo pl best < 0) <;> rfl
      · have : ((pl.length : Int) - best.length == 0) = false := by rw [beq_eq_false_iff_ne]; omega
        rw [this, dF h2]; rfl
theorem fit_tree2 {best pl : List Int} {longest most L : Int} (hl : pl.length ≤ 1000) (A B : Option Fr) :
    cond (decide (L ≤ most)) (cond (decide (((List.length pl : Nat) : Int) > ((List.length best : Nat) : Int))) A (cond (((List.length pl : Nat) : Int) == ((List.length best : Nat) : Int)) (cond (decide (L > longest)) A (cond (L == longest) (cond (decide (List.length pl ≤ 1000)) (cond (decide ((cmpGo pl best) < (0 : Int))) A B) none) B)) B)) B = cond (fitB best longest most pl L) A B := by
  unfold fitB
  rw [dT hl, cond_true]
  cases decide (L ≤ most) with
  | false => rfl
  | true =>
    by_cases h1 : best.length < pl.length
    · rw [dT (p := (pl.length : Int) > best.length) (by omega), dT h1]; rfl
    · rw [dF (p := (pl.length : Int) > best.length) (by omega), dF h1]
      by_cases h2 : pl.length = best.length
      · have : ((pl.length : Int) == best.length) = true := by rw [beq_iff_eq]; omega
        rw [this, dT h2]
        cases decide (L > longest) <;> cases L == longest <;> cases decide (cmpGo pl best < 0) <;> rfl
      · have : ((pl.length : Int) == best.length) = false := by rw [beq_eq_false_iff_ne]; omega
        rw [this, dF h2]; rfl
theorem selP_in (set : Int) : ∀ (l : List Item) (i : Nat), ∀ x ∈ selP set l i, (i : Int) ≤ x ∧ x < ((i + l.length : Nat) : Int)
  | [], i, x, h => by cases h
  | y :: l, i, x, h => by
    have ih := selP_in set l (i + 1)
    simp only [selP] at h
    simp only [List.length_cons]
    cases hb : bitS set i with
    | true =>
      rw [hb] at h
      rcases List.mem_cons.1 h with rfl | h
      · omega
      · have := ih x h; omega
    | false => rw [hb] at h; have := ih x h; omega
theorem selP_len (set : Int) : ∀ (l : List Item) (i : Nat), (selP set l i).length ≤ l.length
  | [], i => Nat.le_refl _
  | y :: l, i => by
    have ih := selP_len set l (i + 1)
    simp only [selP, List.length_cons]
    cases bitS set i <;> simp <;> omega
theorem selI_len (set : Int) : ∀ (l : List Item) (i : Nat), (selI set l i).length ≤ l.length
  | [], i => Nat.le_refl _
  | y :: l, i => by
    have ih := selI_len set l (i + 1)
    simp only [selI, List.length_cons]
    cases bitS set i <;> simp <;> omega

theorem in36 (p : Prgm) (h5 : p.1.length ≤ 5) (most longest : Int) (set N : Nat) (best : List Int) (hb : best.length ≤ 5) : ∀ (m i : Nat) (its : List Item) (pl : List Int), i + m = p.1.length → its.length ≤ i → pl.length ≤ i →
    f36h2 most longest set N set p.1 p.1.length i p.1 p.2.1 p.2.2.1 p.2.2.2.1 p.2.2.2.2 best its pl =
      cond (fitB best longest most (pl ++ selP set (p.1.drop i) i) (fitL p (its ++ selI set (p.1.drop i) i)))
        (f36h0 most (fitL p (its ++ selI set (p.1.drop i) i)) N (wrap .i64 ((set : Int) + 1)) p.1 p.2.1 p.2.2.1 p.2.2.2.1 p.2.2.2.2 (pl ++ selP set (p.1.drop i) i))
        (f36h0 most longest N (wrap .i64 ((set : Int) + 1)) p.1 p.2.1 p.2.2.1 p.2.2.2.1 p.2.2.2.2 best)
  | 0, i, its, pl, hi, h1, h2 => by
    obtain ⟨q1, q2⟩ := long_of p its (by omega)
    rw [f36h2_eq, condF (dlt_not (by omega)), dnil (xs := p.1) (i := i) (by omega), eta_pr, condT q1, q2]
    simp only [selP, selI, List.append_nil]
    exact fit_tree (by omega) (by omega) _ _
  | m + 1, i, its, pl, hi, h1, h2 => by
    have hlt : i < p.1.length := by omega
    rw [f36h2_eq]
    rw [condT (dT (by first | omega | (simp only [List.length_append, List.length_cons, List.length_nil, List.length_set, List.length_take, List.length_drop, List.length_map]; omega) | (simp; omega)))]
    rw [condT (dT (by first | omega | (simp only [List.length_append, List.length_cons, List.length_nil, List.length_set, List.length_take, List.length_drop, List.length_map]; omega) | (simp; omega)))]
    rw [condT (dT (by first | omega | (simp only [List.length_append, List.length_cons, List.length_nil, List.length_set, List.length_take, List.length_drop, List.length_map]; omega) | (simp; omega)))]
    rw [condF (dF (by omega)), getN _ _ _ hlt, eta_i, wsucc (by omega), dcons hlt]
    simp only [selP, selI]
    show cond (bitS set i) _ _ = _
    cases bitS set i with
    | true =>
      rw [cond_true, cond_true, cond_true, condT (dT (by simp; omega)), condT (dT (by simp; omega)), in36 p h5 most longest set N best hb m (i + 1) _ _ (by omega) (by simp; omega) (by simp; omega), List.append_assoc, List.append_assoc]; rfl
    | false =>
      rw [cond_false, cond_false, cond_false, in36 p h5 most longest set N best hb m (i + 1) _ _ (by omega) (by omega) (by omega)]

theorem keys36 (p : Prgm) (h5 : p.1.length ≤ 5) (best : List Int) (hb : best.length ≤ 5) (hr : ∀ x ∈ best, 0 ≤ x ∧ x < (p.1.length : Int)) (a b c d : Int) : ∀ (m i : Nat) (out : List Bytes), i + m = best.length → out.length ≤ i →
    f36h4 best.length i p.1 a b c d out best = some ⟨[.dat (.slice .str) (out ++ (best.drop i).map (keyAt p.1)), .dat tI 0], []⟩
  | 0, i, out, hi, ho => by rw [f36h4_eq, condF (dlt_not (by omega)), dnil (xs := best) (i := i) (by omega)]; simp
  | m + 1, i, out, hi, ho => by
    have hlt : i < best.length := by omega
    have hx := hr _ (List.getElem_mem hlt)
    rw [f36h4_eq]
    rw [condT (dT (by first | omega | (simp only [List.length_append, List.length_cons, List.length_nil, List.length_set, List.length_take, List.length_drop, List.length_map]; omega) | (simp; omega)))]
    rw [condT (dT (by first | omega | (simp only [List.length_append, List.length_cons, List.length_nil, List.length_set, List.length_take, List.length_drop, List.length_map]; omega) | (simp; omega)))]
    rw [condT (dT (by first | omega | (simp only [List.length_append, List.length_cons, List.length_nil, List.length_set, List.length_take, List.length_drop, List.length_map]; omega) | (simp; omega)))]
    rw [condT (dT (by first | omega | (simp only [List.length_append, List.length_cons, List.length_nil, List.length_set, List.length_take, List.length_drop, List.length_map]; omega) | (simp; omega)))]
    rw [getN _ _ _ hlt, condT (dT hx.1), condT (dT hx.2), condT (dT (by simp; omega)), wsucc (by omega), keys36 p h5 best hb hr a b c d m (i + 1) _ (by omega) (by simp; omega), dcons hlt, List.map_cons, List.append_assoc]; rfl

theorem go36 (p : Prgm) (h5 : p.1.length ≤ 5) (most : Int) (N : Nat) (hN : N ≤ 32) : ∀ (m set : Nat) (best : List Int) (longest : Int), set + m = N → best.length ≤ 5 → (∀ x ∈ best, 0 ≤ x ∧ x < (p.1.length : Int)) →
    f36h0 most longest N set p.1 p.2.1 p.2.2.1 p.2.2.2.1 p.2.2.2.2 best = some ⟨[.dat (.slice .str) ((fitGo p most m set best longest).map (keyAt p.1)), .dat tI 0], []⟩
  | 0, set, best, longest, hs, hb, hr => by
    rw [f36h0_eq, condF (dlt_not (by omega))]
    exact keys36 p h5 best hb hr _ _ _ _ best.length 0 [] (Nat.zero_add _) (by simp)
  | m + 1, set, best, longest, hs, hb, hr => by
    have l1 := selP_len set p.1 0
    have l2 := selP_in set p.1 0
    rw [f36h0_eq, condT (dlt (by omega))]
    have := in36 p h5 most longest set N best hb p.1.length 0 [] [] (Nat.zero_add _) (by simp) (by simp)
    rw [show (0 : Int) = ((0 : Nat) : Int) from rfl, this]
    simp only [List.nil_append, List.drop_zero]
    rw [wsucc (by omega), fitGo]
    cases fitB best longest most (selP set p.1 0) (fitL p (selI set p.1 0)) with
    | true => exact go36 p h5 most N hN m (set + 1) _ _ (by omega) (by omega) (fun x hx => by have := l2 x hx; omega)
    | false => exact go36 p h5 most N hN m (set + 1) best longest (by omega) hb hr
theorem pow_small : ∀ n ∈ List.range 6, (wrap .i64 ((1 : Int) * 2 ^ (min (Int.toNat ((n : Nat) : Int)) (IntKind.bits .i64)))) = ((2 ^ n : Nat) : Int) ∧ 2 ^ n ≤ 32 := by decide +kernel
theorem r36 : R36 := by
  intro a0 a1 h
  simp only [decide_eq_true_eq] at h
  rw [f36_run, eta_pr]
  unfold fitF
  cases checkProg isKey a0 != 0 with
  | true => rfl
  | false =>
    rw [cond_false, condF (dF (by omega)), cond_false]
    cases outside a1 0 5184000000 with
    | true => rfl
    | false =>
      obtain ⟨e1, e2⟩ := pow_small a0.1.length (List.mem_range.2 (by omega))
      rw [cond_false, condF (dF (by omega)), e1]
      exact go36 a0 h a1 (2 ^ a0.1.length) e2 (2 ^ a0.1.length) 0 [] 0 (Nat.zero_add _) (by simp) (fun x hx => by cases hx)

theorem in138 (p : Prgm) (h5 : p.1.length ≤ 5) (most longest : Int) (set N : Nat) (best : List Int) : ∀ (m i : Nat) (its : List Item) (pl : List Int), i + m = p.1.length → its.length ≤ i → pl.length ≤ i →
    f38h2x1 most best.length longest set N set p.1 p.1.length i p.1 p.2.1 p.2.2.1 p.2.2.2.1 (-1) best p.2.1 p.2.2.1 p.2.2.2.1 (-1) pl its =
      cond (fitB best longest most (pl ++ selP set (p.1.drop i) i) (fitL p (its ++ selI set (p.1.drop i) i)))
        (f38h0 most ((pl ++ selP set (p.1.drop i) i).length : Nat) (fitL p (its ++ selI set (p.1.drop i) i)) N (wrap .i64 ((set : Int) + 1)) p.1 p.2.1 p.2.2.1 p.2.2.2.1 (-1) (pl ++ selP set (p.1.drop i) i))
        (f38h0 most best.length longest N (wrap .i64 ((set : Int) + 1)) p.1 p.2.1 p.2.2.1 p.2.2.2.1 (-1) best)
  | 0, i, its, pl, hi, h1, h2 => by
    rw [f38h2x1_eq, condF (dlt_not (by omega)), dnil (xs := p.1) (i := i) (by omega), condT (dT (by show its.length ≤ 1000; omega)), long_eq]
    simp only [selP, selI, List.append_nil]
    exact fit_tree2 (by omega) _ _
  | m + 1, i, its, pl, hi, h1, h2 => by
    have hlt : i < p.1.length := by omega
    rw [f38h2x1_eq]
    rw [condT (dT (by first | omega | (simp only [List.length_append, List.length_cons, List.length_nil, List.length_set, List.length_take, List.length_drop, List.length_map]; omega) | (simp; omega)))]
    rw [condT (dT (by first | omega | (simp only [List.length_append, List.length_cons, List.length_nil, List.length_set, List.length_take, List.length_drop, List.length_map]; omega) | (simp; omega)))]
    rw [condT (dT (by first | omega | (simp only [List.length_append, List.length_cons, List.length_nil, List.length_set, List.length_take, List.length_drop, List.length_map]; omega) | (simp; omega)))]
    rw [condF (dF (by omega)), getN _ _ _ hlt, eta_i, wsucc (by omega), dcons hlt]
    simp only [selP, selI]
    show cond (bitS set i) _ _ = _
    cases bitS set i with
    | true =>
      rw [cond_true, cond_true, cond_true, condT (dT (by simp; omega)), condT (dT (by simp; omega)), in138 p h5 most longest set N best m (i + 1) _ _ (by omega) (by simp; omega) (by simp; omega), List.append_assoc, List.append_assoc]; rfl
    | false =>
      rw [cond_false, cond_false, cond_false, in138 p h5 most longest set N best m (i + 1) _ _ (by omega) (by omega) (by omega)]
theorem in038 (p : Prgm) (h5 : p.1.length ≤ 5) (most longest : Int) (set N : Nat) (best : List Int) : ∀ (m i : Nat), i + m = p.1.length →
    f38h2 most best.length longest set N set p.1 p.1.length i p.1 p.2.1 p.2.2.1 p.2.2.2.1 (-1) best p.2.1 p.2.2.1 p.2.2.2.1 (-1) [] =
      cond (fitB best longest most (selP set (p.1.drop i) i) (fitL p (selI set (p.1.drop i) i)))
        (f38h0 most ((selP set (p.1.drop i) i).length : Nat) (fitL p (selI set (p.1.drop i) i)) N (wrap .i64 ((set : Int) + 1)) p.1 p.2.1 p.2.2.1 p.2.2.2.1 (-1) (selP set (p.1.drop i) i))
        (f38h0 most best.length longest N (wrap .i64 ((set : Int) + 1)) p.1 p.2.1 p.2.2.1 p.2.2.2.1 (-1) best)
  | 0, i, hi => by
    rw [f38h2_eq, condF (dlt_not (by omega)), dnil (xs := p.1) (i := i) (by omega), condT (dT (by show ([] : List Item).length ≤ 1000; simp)), long_eq]
    simp only [selP, selI]
    exact fit_tree2 (by simp) _ _
  | m + 1, i, hi => by
    have hlt : i < p.1.length := by omega
    rw [f38h2_eq]
    rw [condT (dT (by first | omega | (simp only [List.length_append, List.length_cons, List.length_nil, List.length_set, List.length_take, List.length_drop, List.length_map]; omega) | (simp; omega)))]
    rw [condT (dT (by first | omega | (simp only [List.length_append, List.length_cons, List.length_nil, List.length_set, List.length_take, List.length_drop, List.length_map]; omega) | (simp; omega)))]
    rw [condT (dT (by first | omega | (simp only [List.length_append, List.length_cons, List.length_nil, List.length_set, List.length_take, List.length_drop, List.length_map]; omega) | (simp; omega)))]
    rw [condF (dF (by omega)), getN _ _ _ hlt, eta_i, wsucc (by omega), dcons hlt]
    simp only [selP, selI]
    show cond (bitS set i) _ _ = _
    cases bitS set i with
    | true =>
      rw [cond_true, cond_true, cond_true, condT (dT (by simp)), condT (dT (by simp)), List.nil_append, in138 p h5 most longest set N best m (i + 1) _ _ (by omega) (by simp) (by simp)]; rfl
    | false =>
      rw [cond_false, cond_false, cond_false, in038 p h5 most longest set N best m (i + 1) (by omega)]
theorem keys38 (p : Prgm) (h5 : p.1.length ≤ 5) (best : List Int) (hb : best.length ≤ 5) (hr : ∀ x ∈ best, 0 ≤ x ∧ x < (p.1.length : Int)) (a b c d : Int) : ∀ (m i : Nat) (out : List Bytes), i + m = best.length → out.length ≤ i →
    f38h4 best.length i p.1 a b c d out best = some ⟨[.dat (.slice .str) (out ++ (best.drop i).map (keyAt p.1))], []⟩
  | 0, i, out, hi, ho => by rw [f38h4_eq, condF (dlt_not (by omega)), dnil (xs := best) (i := i) (by omega)]; simp
  | m + 1, i, out, hi, ho => by
    have hlt : i < best.length := by omega
    have hx := hr _ (List.getElem_mem hlt)
    rw [f38h4_eq]
    rw [condT (dT (by first | omega | (simp only [List.length_append, List.length_cons, List.length_nil, List.length_set, List.length_take, List.length_drop, List.length_map]; omega) | (simp; omega)))]
    rw [condT (dT (by first | omega | (simp only [List.length_append, List.length_cons, List.length_nil, List.length_set, List.length_take, List.length_drop, List.length_map]; omega) | (simp; omega)))]
    rw [condT (dT (by first | omega | (simp only [List.length_append, List.length_cons, List.length_nil, List.length_set, List.length_take, List.length_drop, List.length_map]; omega) | (simp; omega)))]
    rw [condT (dT (by first | omega | (simp only [List.length_append, List.length_cons, List.length_nil, List.length_set, List.length_take, List.length_drop, List.length_map]; omega) | (simp; omega)))]
    rw [getN _ _ _ hlt, condT (dT hx.1), condT (dT hx.2), condT (dT (by simp; omega)), wsucc (by omega), keys38 p h5 best hb hr a b c d m (i + 1) _ (by omega) (by simp; omega), dcons hlt, List.map_cons, List.append_assoc]; rfl
theorem go38 (p : Prgm) (h5 : p.1.length ≤ 5) (most : Int) (N : Nat) (hN : N ≤ 32) : ∀ (m set : Nat) (best : List Int) (longest : Int), set + m = N → best.length ≤ 5 → (∀ x ∈ best, 0 ≤ x ∧ x < (p.1.length : Int)) →
    f38h0 most best.length longest N set p.1 p.2.1 p.2.2.1 p.2.2.2.1 (-1) best = some ⟨[.dat (.slice .str) ((fitGo p most m set best longest).map (keyAt p.1))], []⟩
  | 0, set, best, longest, hs, hb, hr => by
    rw [f38h0_eq, condF (dlt_not (by omega))]
    exact keys38 p h5 best hb hr _ _ _ _ best.length 0 [] (Nat.zero_add _) (by simp)
  | m + 1, set, best, longest, hs, hb, hr => by
    have l1 := selP_len set p.1 0
    have l2 := selP_in set p.1 0
    rw [f38h0_eq, condT (dlt (by omega))]
    have := in038 p h5 most longest set N best p.1.length 0 (Nat.zero_add _)
    rw [show (0 : Int) = ((0 : Nat) : Int) from rfl, this]
    simp only [List.drop_zero]
    rw [wsucc (by omega), fitGo]
    cases fitB best longest most (selP set p.1 0) (fitL p (selI set p.1 0)) with
    | true => exact go38 p h5 most N hN m (set + 1) _ _ (by omega) (by omega) (fun x hx => by have := l2 x hx; omega)
    | false => exact go38 p h5 most N hN m (set + 1) best longest (by omega) hb hr
theorem r38 : R38 := by
  intro a0 a1 h
  simp only [decide_eq_true_eq] at h
  obtain ⟨e1, e2⟩ := pow_small a0.1.length (List.mem_range.2 (by omega))
  rw [f38_run, condF (dF (by omega)), e1]
  exact go38 a0 h a1 (2 ^ a0.1.length) e2 (2 ^ a0.1.length) 0 [] 0 (Nat.zero_add _) (by simp) (fun x hx => by cases hx)

end Go.Ev.L

set_option linter.unusedVariables false
set_option linter.unusedSimpArgs false
namespace Go.Ev.L
open Go Go.Ev Go.Proofs
theorem fitGo_len (p : Prgm) (h5 : p.1.length ≤ 5) (most : Int) : ∀ (m set : Nat) (best : List Int) (longest : Int), best.length ≤ 5 → (fitGo p most m set best longest).length ≤ 5
  | 0, set, best, longest, h => h
  | m + 1, set, best, longest, h => by
    have l1 := selP_len set p.1 0
    rw [fitGo]
    cases fitB best longest most (selP set p.1 0) (fitL p (selI set p.1 0)) with
    | true => exact fitGo_len p h5 most m _ _ _ (by omega)
    | false => exact fitGo_len p h5 most m _ _ _ h
def one2 (p : Prgm) (w : Int) : Int := firstE [checkProg keyR p, w]
theorem two_cases (c w : Int) : firstE [c, w] = cond (c != 0) c (cond (w != 0) w 0) := rfl
theorem fit2 (p : Prgm) (most : Int) : (fitF p most).2 = firstE [checkProg keyR p, cond (outside most 0 5184000000) 1 0] := by
  unfold fitF
  rw [isKey_fun, two_cases]
  cases checkProg keyR p != 0 with
  | true => rfl
  | false => cases outside most 0 5184000000 <;> rfl
theorem fit1t {p : Prgm} {most : Int} (h : (firstE [checkProg keyR p, cond (outside most 0 5184000000) 1 0] == 0) = true) : (fitF p most).1 = fitR p most := by
  rw [two_cases] at h
  unfold fitF
  rw [isKey_fun]
  cases hc : checkProg keyR p != 0 with
  | true =>
    rw [hc] at h
    have h : (checkProg keyR p == 0) = true := h
    rw [bne, h] at hc; cases hc
  | false =>
    rw [hc] at h
    cases ho : outside most 0 5184000000 with
    | true => rw [ho] at h; cases h
    | false => rfl
theorem fit1f {p : Prgm} {most : Int} (h : (firstE [checkProg keyR p, cond (outside most 0 5184000000) 1 0] == 0) = false) : (fitF p most).1 = [] := by
  rw [two_cases] at h
  unfold fitF
  rw [isKey_fun]
  cases hc : checkProg keyR p != 0 with
  | true => rfl
  | false =>
    rw [hc] at h
    cases ho : outside most 0 5184000000 with
    | true => rfl
    | false => rw [ho] at h; cases h
theorem fit1l (p : Prgm) (most : Int) (h5 : p.1.length ≤ 5) : (fitF p most).1.length ≤ 1000 := by
  cases h : firstE [checkProg keyR p, cond (outside most 0 5184000000) 1 0] == 0 with
  | false => rw [fit1f h]; simp
  | true =>
    rw [fit1t h]
    unfold fitR
    rw [List.length_map]
    have := fitGo_len p h5 most (2 ^ p.1.length) 0 [] 0 (by simp)
    omega
theorem three_cases (c w v : Int) : firstE [c, w, v] = cond (c != 0) c (cond (w != 0) w (cond (v != 0) v 0)) := rfl
theorem enc2 (p : Prgm) (left : Int) : (encF p left).2 = firstE [checkProg keyR p, cond (outside left 0 86400000) 1 0, cond ((p.1.length : Int) == 0) 8 0] := by
  unfold encF
  rw [isKey_fun, three_cases]
  cases checkProg keyR p != 0 with
  | true => rfl
  | false =>
    cases outside left 0 86400000 with
    | true => rfl
    | false => cases (p.1.length : Int) == 0 <;> rfl
theorem enc1t {p : Prgm} {left : Int} (h : (firstE [checkProg keyR p, cond (outside left 0 86400000) 1 0, cond ((p.1.length : Int) == 0) 8 0] == 0) = true) : (encF p left).1 = encR p left ∧ 0 < p.1.length := by
  rw [three_cases] at h
  unfold encF
  rw [isKey_fun]
  cases hc : checkProg keyR p != 0 with
  | true =>
    rw [hc] at h
    have h : (checkProg keyR p == 0) = true := h
    rw [bne, h] at hc; cases hc
  | false =>
    rw [hc] at h
    cases ho : outside left 0 86400000 with
    | true => rw [ho] at h; cases h
    | false =>
      rw [ho] at h
      cases hz : (p.1.length : Int) == 0 with
      | true => rw [hz] at h; cases h
      | false => exact ⟨rfl, by have := beq_eq_false_iff_ne.1 hz; omega⟩
theorem enc1f {p : Prgm} {left : Int} (h : (firstE [checkProg keyR p, cond (outside left 0 86400000) 1 0, cond ((p.1.length : Int) == 0) 8 0] == 0) = false) : (encF p left).1 = [] := by
  rw [three_cases] at h
  unfold encF
  rw [isKey_fun]
  cases hc : checkProg keyR p != 0 with
  | true => rfl
  | false =>
    rw [hc] at h
    cases ho : outside left 0 86400000 with
    | true => rfl
    | false =>
      rw [ho] at h
      cases hz : (p.1.length : Int) == 0 with
      | true => rfl
      | false => rw [hz] at h; cases h
theorem enc1l (p : Prgm) (left : Int) (h5 : p.1.length ≤ 5) : (encF p left).1.length ≤ 1000 := by
  cases h : firstE [checkProg keyR p, cond (outside left 0 86400000) 1 0, cond ((p.1.length : Int) == 0) 8 0] == 0 with
  | false => rw [enc1f h]; simp
  | true =>
    rw [(enc1t h).1]
    unfold encR
    rw [List.length_map, sortG_len]
    have : (p.1.filter fun x => !decide (encL p x > left)).length ≤ p.1.length := List.length_filter_le _ _
    omega
theorem beqT {α : Type} [BEq α] [LawfulBEq α] {a b : α} (h : a = b) : (a == b) = true := by rw [h]; exact beq_self_eq_true _

theorem r5 : R5 := by
  intro a0 _
  rw [f5_run]
  have hA : (atOk 2000 (0 : Int) && (5 : Int) == 5) = true := rfl
  obtain ⟨⟨s1, s2, s3⟩, _⟩ := aProg_spec a0 0 5 hA
  refine (condT hA).trans ?_
  generalize aProg a0 0 5 = P at s1 s2 s3 ⊢
  refine (condT (atOk_and (by omega) (by omega) rfl rfl)).trans ?_
  have e1 := nextAt_s (a := P.1) (by omega) (by omega)
  rw [e1]
  refine (condT (atOk_and (by omega) (by omega) rfl rfl)).trans ?_
  generalize pick a0 P.1 [(0 : Int), (99 : Int), (150 : Int), (260 : Int), (400 : Int), (1000 : Int), (-1 : Int), (5184000001 : Int)] = most
  generalize pick a0 (P.1 + 1) [(0 : Int), (60 : Int), (110 : Int), (130 : Int), (250 : Int), (-1 : Int), (86400001 : Int)] = left
  obtain ⟨a, p⟩ := P
  simp only at s1 s2 s3
  refine (condT (dT s3)).trans ?_
  refine (condT (dT s3)).trans ?_
  have w3 : t24_0 (((List.length p.1 : Nat) : Int) == (0 : Int)) 8 = cond ((p.1.length : Int) == 0) 8 0 := rfl
  have f2 := fit2 p most
  have f1l := fit1l p most s3
  have g2 := enc2 p left
  have g1l := enc1l p left s3
  have f1t := @fit1t p most
  have f1f := @fit1f p most
  have g1t := @enc1t p left
  have g1f := @enc1f p left
  have u1 : ∀ v, v = cond (outside most 0 5184000000) 1 0 → (fitF p most).2 = firstE [checkProg keyR p, v] ∧ ((firstE [checkProg keyR p, v] == 0) = true → (fitF p most).1 = fitR p most) ∧ ((firstE [checkProg keyR p, v] == 0) = false → (fitF p most).1 = []) :=
    fun v h => by subst h; exact ⟨f2, f1t, f1f⟩
  have u2 : ∀ v, v = cond (outside left 0 86400000) 1 0 → (encF p left).2 = firstE [checkProg keyR p, v, t24_0 (((List.length p.1 : Nat) : Int) == (0 : Int)) 8] ∧ ((firstE [checkProg keyR p, v, t24_0 (((List.length p.1 : Nat) : Int) == (0 : Int)) 8] == 0) = true → (encF p left).1 = encR p left ∧ 0 < p.1.length) ∧ ((firstE [checkProg keyR p, v, t24_0 (((List.length p.1 : Nat) : Int) == (0 : Int)) 8] == 0) = false → (encF p left).1 = []) :=
    fun v h => by subst h; exact ⟨g2, g1t, g1f⟩
  clear f2 f1t f1f g2 g1t g1f w3
  have v1 : ∀ b : Bool, t24_0 b 1 = cond b 1 0 := fun b => rfl
  refine condB (fun hb => ?_) (fun hb => ?_)
  all_goals
    first
      | have q := u1 (t24_0 true 1) (by unfold outside; rw [hb]; rfl)
      | have q := u1 (t24_0 (decide (most > 5184000000)) 1) (by unfold outside; rw [hb]; rfl)
    obtain ⟨q1, q2, q3⟩ := q
    refine (condT (dT (by simp))).trans ?_
    refine condB (fun hc => ?_) (fun hc => ?_)
  all_goals
    first
      | have r := u2 (t24_0 true 1) (by unfold outside; rw [hc]; rfl)
      | have r := u2 (t24_0 (decide (left > 86400000)) 1) (by unfold outside; rw [hc]; rfl)
    obtain ⟨r1, r2, r3⟩ := r
    refine (condT (dT (by simp))).trans ?_
    refine condB (fun h1 => ?_) (fun h1 => ?_)
  all_goals
    first
      | refine (condT (dT s3)).trans ?_
      | skip
    refine condB (fun h2 => ?_) (fun h2 => ?_)
  all_goals
    first
      | refine (condT (by rw [dT s3, dT (r2 h2).2]; rfl)).trans ?_
      | skip
    refine (condT (beqT q1)).trans ?_
    refine (condT (dT f1l)).trans ?_
    first
      | refine (condT (beqT (q2 h1))).trans ?_
      | refine (condT (beqT (q3 h1))).trans ?_
    refine (condT (beqT r1)).trans ?_
    refine (condT (dT g1l)).trans ?_
    first
      | refine (condT (beqT (r2 h2).1)).trans ?_
      | refine (condT (beqT (r3 h2))).trans ?_
    rfl

end Go.Ev.L

namespace Go.Ev.L
open Go Go.Ev Go.Proofs
theorem e83 : EnvOk Tryd.prog En83 := sd83 e0 r83
theorem e41 : EnvOk Tryd.prog En41 := sd41 e83 r41
theorem e29 : EnvOk Tryd.prog En29 := sd29 e41 r29
theorem e30 : EnvOk Tryd.prog En30 := sd30 e29 r30
theorem e35 : EnvOk Tryd.prog En35 := sd35 e30 r35
theorem e40 : EnvOk Tryd.prog En40 := sd40 e35 r40
theorem e31 : EnvOk Tryd.prog En31 := sd31 e40 r31
theorem e42 : EnvOk Tryd.prog En42 := sd42 e31 r42
theorem e43 : EnvOk Tryd.prog En43 := sd43 e42 r43
theorem e6 : EnvOk Tryd.prog En6 := sd6 e43 r6
theorem e46 : EnvOk Tryd.prog En46 := sd46 e6 r46
theorem e86 : EnvOk Tryd.prog En86 := sd86 e46 r86
theorem e89 : EnvOk Tryd.prog En89 := sd89 e86 r89
theorem e54 : EnvOk Tryd.prog En54 := sd54 e89 r54
theorem e90 : EnvOk Tryd.prog En90 := sd90 e54 r90
theorem e88 : EnvOk Tryd.prog En88 := sd88 e90 r88
theorem e55 : EnvOk Tryd.prog En55 := sd55 e88 r55
theorem e56 : EnvOk Tryd.prog En56 := sd56 e55 r56
theorem e17 : EnvOk Tryd.prog En17 := sd17 e56 r17
theorem e11 : EnvOk Tryd.prog En11 := sd11 e17 r11
theorem e51 : EnvOk Tryd.prog En51 := sd51 e11 r51
theorem e88a : EnvOk Tryd.prog En88a := sd88a e51 r88a
theorem e50 : EnvOk Tryd.prog En50 := sd50 e88a r50
theorem e87 : EnvOk Tryd.prog En87 := sd87 e50 r87
theorem e49 : EnvOk Tryd.prog En49 := sd49 e87 r49
theorem e52 : EnvOk Tryd.prog En52 := sd52 e49 r52
theorem e53 : EnvOk Tryd.prog En53 := sd53 e52 r53
theorem e16 : EnvOk Tryd.prog En16 := sd16 e53 r16
theorem e18 : EnvOk Tryd.prog En18 := sd18 e16 r18
theorem e74 : EnvOk Tryd.prog En74 := sd74 e18 r74
theorem e85 : EnvOk Tryd.prog En85 := sd85 e74 r85
theorem e45 : EnvOk Tryd.prog En45 := sd45 e85 r45
theorem e9 : EnvOk Tryd.prog En9 := sd9 e45 r9
theorem e20 : EnvOk Tryd.prog En20 := sd20 e9 r20
theorem e23 : EnvOk Tryd.prog En23 := sd23 e20 r23
theorem e24 : EnvOk Tryd.prog En24 := sd24 e23 r24
theorem e27 : EnvOk Tryd.prog En27 := sd27 e24 r27
theorem e62 : EnvOk Tryd.prog En62 := sd62 e27 r62
theorem e109 : EnvOk Tryd.prog En109 := sd109 e62 r109
theorem e92 : EnvOk Tryd.prog En92 := sd92 e109 r92
theorem e64 : EnvOk Tryd.prog En64 := sd64 e92 r64
theorem e36 : EnvOk Tryd.prog En36 := sd36 e64 r36
theorem e76 : EnvOk Tryd.prog En76 := sd76 e36 r76
theorem e112 : EnvOk Tryd.prog En112 := sd112 e76 r112
theorem e98 : EnvOk Tryd.prog En98 := sd98 e112 r98
theorem e75 : EnvOk Tryd.prog En75 := sd75 e98 r75
theorem e37 : EnvOk Tryd.prog En37 := sd37 e75 r37
theorem e48 : EnvOk Tryd.prog En48 := sd48 e37 r48
theorem e15 : EnvOk Tryd.prog En15 := sd15 e48 r15
theorem e13 : EnvOk Tryd.prog En13 := sd13 e15 r13
theorem e38 : EnvOk Tryd.prog En38 := sd38 e13 r38
theorem e77 : EnvOk Tryd.prog En77 := sd77 e38 r77
theorem e79 : EnvOk Tryd.prog En79 := sd79 e77 r79
theorem e88b : EnvOk Tryd.prog En88b := sd88b e79 r88b
theorem e78 : EnvOk Tryd.prog En78 := sd78 e88b r78
theorem e82 : EnvOk Tryd.prog En82 := sd82 e78 r82
theorem e81 : EnvOk Tryd.prog En81 := sd81 e82 r81
theorem e114 : EnvOk Tryd.prog En114 := sd114 e81 r114
theorem e99 : EnvOk Tryd.prog En99 := sd99 e114 r99
theorem e80 : EnvOk Tryd.prog En80 := sd80 e99 r80
theorem e57 : EnvOk Tryd.prog En57 := sd57 e80 r57
theorem e67 : EnvOk Tryd.prog En67 := sd67 e57 r67
theorem e39 : EnvOk Tryd.prog En39 := sd39 e67 r39
theorem lawSound : Sound Tryd.prog En39.gl 5 S5 := law e39 r5
end Go.Ev.L

set_option linter.unusedSimpArgs false
set_option linter.unusedVariables false
namespace Go.Ev
open Go

/-! ### from a contract to a row -/
/-- A row of whole numbers in memory. -/
def IsRow (k : IntKind) (w : World) (a : Option Addr) (len cap : Nat) (zs : List Int) : Prop :=
  (a = none ∧ len = 0 ∧ cap = 0 ∧ zs = []) ∨
  ∃ x, a = some x ∧ len ≤ cap ∧ zs.length = cap ∧ (∀ i, i < zs.length → w.cell? (x.add i) = some (.int k (zs.getD i 0)))

/-- What is left as it was. -/
def Kept (W w' : World) : Prop := w'.os = W.os ∧ w'.output = W.output ∧ W.heap.size ≤ w'.heap.size ∧ ∀ b, b < W.heap.size → w'.heap[b]? = W.heap[b]?

theorem Kept.but {W w' : World} (h : Kept W w') (may : MemPlace → Prop) : W.keptBut w' may := by
  refine ⟨h.1, h.2.1, fun i hi => ?_⟩
  rw [h.2.2.2 i hi]
  split <;> simp_all

theorem Kept.same {W w' : World} (h : Kept W w') {p : MemPlace} (hp : p.block < W.heap.size) : W.sameAt w' p := by
  cases p with
  | cell b o => exact World.cell?_of_block (w := W) (h.2.2.2 b hp)
  | map b => exact h.2.2.2 b hp

theorem Kept.trod {H : Type} {enc : TypeId × Value → H} {P : Program} {t : TypeId} (hl : laidOutB P = true) (hr : P.readableRec t = true) (hrow : t < P.types.size) {W W' : World} {v : Value} {d : DataW H} {ps : List MemPlace}
    (h : DataW.Trod enc P W 0 (fun _ => true) true t v d ps) (hb : Kept W W') (hlt : ∀ x ∈ ps, x.block < W.heap.size) :
    DataW.Trod enc P W' 0 (fun b => decide (b < W.heap.size)) true t v d ps :=
  WideElems.Trod_stays hl hr hrow h (fun x hx => hb.same (hlt x hx)) (fun x hx => by simpa using hlt x hx)

theorem row_rel {W : World} {k : IntKind} {a : Option Addr} {len cap : Nat} {zs : List Int} (h : IsRow k W a len cap zs) :
    RelD (fun b => b < W.heap.size) W.heap (.slice (.int k)) (zs.take len) [.slice a len cap] := by
  rcases h with ⟨rfl, rfl, rfl, rfl⟩ | ⟨x, rfl, h1, h2, h3⟩
  · exact ⟨none, 0, rfl, by simp, fun i x hx => by simp at hx⟩
  · have hlen : (zs.take len).length = len := by rw [List.length_take]; omega
    refine ⟨some x, cap, by rw [hlen], by rw [hlen]; omega, fun i y hy => ?_⟩
    have hi : i < (zs.take len).length := (List.getElem?_eq_some_iff.1 hy).1
    rw [hlen] at hi
    have hc := h3 i (by omega)
    have hsp : x.spot = none := by
      have h4 := World.cell?_spot (h3 0 (by omega))
      rwa [show x.add 0 = x from if_pos rfl] at h4
    have hadd : x.add i = ⟨x.block, x.off + i, none⟩ := by
      obtain ⟨b, o, sp⟩ := x
      simp only at hsp
      subst hsp
      unfold Addr.add
      split
      · rename_i h0; simp [h0]
      · rfl
    rw [hadd, cell_at] at hc
    have hy2 : zs.getD i 0 = y := by
      rw [List.getElem?_take, if_pos hi] at hy
      rw [List.getD_eq_getElem?_getD, hy]; rfl
    refine ⟨x, rfl, hsp, ?_, [.int k y], rfl, fun j u hu => ?_⟩
    · unfold cellAt at hc
      split at hc
      · rename_i hb
        exact (Array.getElem?_eq_some_iff.1 hb).1
      · cases hc
    · have hj : j = 0 := by
        have := (List.getElem?_eq_some_iff.1 hu).1
        simpa using this
      subst hj
      simp at hu; subst hu
      rw [show (Tc.int k).size = 1 from rfl, Nat.mul_one, Nat.add_zero, hc, hy2]

/-- A law over numbers: it answers true, and leaves memory alone. -/
theorem law_calls {P : Program} {G : (Nat → Prop) → Array Obj → Prop} {f : FuncId} {s : Spec} (hs : Sound P G f s) {L : List Int} (hok : s.ok ⟨[.dat (.slice (.int .i64)) L], []⟩ = true) (hfn : s.fn ⟨[.dat (.slice (.int .i64)) L], []⟩ = some ⟨[.dat .bool true], []⟩)
    {W : World} {a : Option Addr} {len cap : Nat} (hG : G (fun b => b < W.heap.size) W.heap) (hr : RelD (fun b => b < W.heap.size) W.heap (.slice (.int .i64)) L [.slice a len cap]) :
    Calls P f #[.slice a len cap] W fun e w' => e = .returned (.bool true) ∧ Kept W w' := by
  have hcore : Core (Fr.reg ⟨[.dat (.slice (.int .i64)) L], []⟩) (fun _ => ⟨0, 0, 0, true, none⟩) (fun b => b < W.heap.size) W.heap :=
    ⟨fun k => trivial, fun k k' h => h.elim, fun k h => h.elim, fun b h => h⟩
  have hv : RelVs (view (Fr.reg ⟨[.dat (.slice (.int .i64)) L], []⟩) (fun _ => ⟨0, 0, 0, true, none⟩) (fun b => b < W.heap.size) W.heap) [.dat (.slice (.int .i64)) L] [.slice a len cap] :=
    ⟨_, _, rfl, hr, rfl⟩
  refine (hs _ _ hok hfn [.slice a len cap] W _ _ hcore hG hv).mono ?_
  rintro e w' ⟨u, rfl, hm, loc', S', hc, hle, hu⟩
  have hu' : [u] = [Value.bool true] := hu
  refine ⟨by simpa using hu', hm.1, hm.2, hc.keep.size, fun b hb => hc.keep.same b hb ?_⟩
  rintro ⟨k, hk, _⟩
  exact hk.elim
end Go.Ev
