import Derived.Test.YtpajbcpdhpnjlaaGreatDoorA4
import Derived.Test.YtpajbcpdhpnjlaaGreatDoorA3
import Derived.WalkKit
import Derived.ProofKit
import Derived.OpenShut
import Derived.ChangeOld
import Derived.Carry
import Derived.SizedLaws
set_option linter.unusedVariables false
set_option linter.unusedSimpArgs false
namespace Go.Ev.N
open Go Go.Ev Go.Proofs
def QRp (L : List Int) (a b : Int) (f : Fr) : Prop := ∃ (a' : Int) (items : List Item) (p q r s : Int),
  f = ⟨[.agg [.slc 2, .dat tI p, .dat tI q, .dat tI r, .dat tI s]], [(0, .box [.dat (.slice tI) L, .dat tI a']), (2, .arr tItem items)]⟩ ∧ a ≤ a' ∧ a' ≤ b ∧ items.length ≤ 5 ∧ ∀ x ∈ items, x.2.2.2.length ≤ 5

theorem rp2 (x0 : List Bytes) (x1 x2 : Int) (L : List Int) (z1 z2 z3 z4 p q r s : Int) (n g : Bytes) (lg : Int) (nl : List Bytes) (hn : nl.length ≤ 3) (items : List Item) (hi : items.length ≤ 4) : ∀ (m k : Nat) (a : Int) (parts : List Bytes),
    k + m = nl.length → 0 ≤ a → a + m ≤ 1099511627776 → parts.length ≤ k →
    ∃ (a' : Int) (it : Item), f25h2 x0 x1 x2 nl.length k L a z1 z2 z3 z4 p q r s n g lg nl items parts = f25h0 x0 x1 (wrap .i64 (x2 + 1)) L a' z1 z2 z3 z4 p q r s (items ++ [it]) ∧
      a ≤ a' ∧ a' ≤ a + m ∧ it.2.2.2.length ≤ 5 := by
  intro m
  induction m with
  | zero =>
    intro k a parts hk h0 ha hp
    rw [f25h2_eq, dlt_not (i := k) (n := nl.length) (by omega), cond_false]
    cases hz : ((parts.length : Int) == 0) with
    | true =>
      refine ⟨a, (n, (g, (lg, [[97, 108, 116, 111]]))), ?_, by omega, by omega, by simp⟩
      rw [cond_true]
      exact condT (dT (by simp; omega))
    | false =>
      refine ⟨a, (n, (g, (lg, parts))), ?_, by omega, by omega, by show parts.length ≤ 5; omega⟩
      rw [cond_false]
      exact condT (dT (by simp; omega))
  | succ m ih =>
    intro k a parts hk h0 ha hp
    have hlt : k < nl.length := by omega
    rw [f25h2_eq, dlt hlt, dle0, getN _ _ _ hlt, wsucc (by omega), dT (p := Int.toNat (k : Int) < nl.length) (by simpa using hlt), atOk_t h0 (by omega), nextAt_s h0 (by omega)]
    simp only [cond_true]
    cases next L a 2 == 0 with
    | true =>
      obtain ⟨a', it, e, h1, h2, h3⟩ := ih (k + 1) (a + 1) (parts ++ [nl[k]]) (by omega) (by omega) (by omega) (by simp; omega)
      refine ⟨a', it, ?_, by omega, by omega, h3⟩
      rw [cond_true, condT (dT (by simp; omega))]; exact e
    | false =>
      obtain ⟨a', it, e, h1, h2, h3⟩ := ih (k + 1) (a + 1) parts (by omega) (by omega) (by omega) (by omega)
      exact ⟨a', it, e, by omega, by omega, h3⟩

theorem QRp_mono {L : List Int} {a b c d : Int} (h1 : c ≤ a) (h2 : b ≤ d) {o : Option Fr} (h : Ends (QRp L a b) o) : Ends (QRp L c d) o := by
  refine ends_mono h ?_
  rintro f ⟨a', it, p, q, r, s, e, h3, h4, h5⟩
  exact ⟨a', it, p, q, r, s, e, by omega, by omega, h5⟩

theorem rp0 (xs : List Bytes) (hx : xs.length ≤ 5) (L : List Int) (z1 z2 z3 z4 p q r s : Int) : ∀ (m i : Nat) (a : Int) (items : List Item),
    i + m = xs.length → 0 ≤ a → a + 10 * m + 10 ≤ 1099511627776 → items.length ≤ i → (∀ x ∈ items, x.2.2.2.length ≤ 5) →
    Ends (QRp L a (a + 10 * m + 10)) (f25h0 xs xs.length i L a z1 z2 z3 z4 p q r s items) := by
  intro m
  induction m with
  | zero =>
    intro i a items hi h0 ha hl hp
    rw [f25h0_eq, dlt_not (i := i) (n := xs.length) (by omega), cond_false]
    have leaf : ∀ (a' s' : Int), a ≤ a' → a' ≤ a + 10 → Ends (QRp L a (a + 10 * (0 : Nat) + 10)) (some ⟨[.agg [.slc 2, .dat tI p, .dat tI q, .dat tI r, .dat tI s']], [(0, .box [.dat (.slice tI) L, .dat tI a']), (2, .arr tItem items)]⟩) :=
      fun a' s' h1 h2 => ends_some ⟨a', items, p, q, r, s', rfl, h1, by omega, by omega, hp⟩
    refine ends_cond (fun _ => ?_) (fun _ => leaf a s (by omega) (by omega))
    rw [atOk_t h0 (by omega), nextAt_s h0 (by omega), atOk_t (k := 1) (a := a + 1) (by omega) (by omega), nextAt_s (a := a + 1) (by omega) (by omega)]
    simp only [cond_true]
    exact ends_cond (fun _ => leaf _ _ (by omega) (by omega)) (fun _ => leaf _ _ (by omega) (by omega))
  | succ m ih =>
    intro i a items hi h0 ha hl hp
    have hlt : i < xs.length := by omega
    rw [f25h0_eq, dlt hlt, dle0, getN _ _ _ hlt, wsucc (by omega), atOk_t h0 (by omega), nextAt_s h0 (by omega), atOk_t (k := 1) (a := a + 1) (by omega) (by omega), nextAt_s (a := a + 1) (by omega) (by omega),
      atOk_t (k := 1) (a := a + 1 + 1) (by omega) (by omega), nextAt_s (a := a + 1 + 1) (by omega) (by omega)]
    simp only [cond_true]
    refine ends_cond (fun _ => ?_) (fun _ => ?_)
    · exact QRp_mono (by omega) (by omega) (ih (i + 1) (a + 1) items (by omega) (by omega) (by omega) (by omega) hp)
    · refine ends_if rfl (ends_if rfl ?_)
      obtain ⟨a', it, e, h1, h2, h3⟩ := rp2 xs xs.length i L z1 z2 z3 z4 p q r s xs[i] (some_ L (a + 1) [[114, 111, 119, 115], [114, 111, 119, 115], [99, 105, 114, 99, 108, 101]]) (pick L (a + 1 + 1) [(50 : Int), (100 : Int), (100 : Int), (200 : Int)])
        [[97, 108, 116, 111], [98, 97, 115, 115], [115, 111, 108, 105]] (by simp) items (by omega) 3 0 (a + 1 + 1 + 1) [] (by simp) (by omega) (by omega) (by simp)
      rw [wsucc (by omega)] at e
      have e' : f25h2 xs xs.length i ((List.length ([[97, 108, 116, 111], [98, 97, 115, 115], [115, 111, 108, 105]] : List Bytes) : Nat) : Int) (0 : Int) L (a + 1 + 1 + 1) z1 z2 z3 z4 p q r s xs[i] (some_ L (a + 1) [[114, 111, 119, 115], [114, 111, 119, 115], [99, 105, 114, 99, 108, 101]]) (pick L (a + 1 + 1) [(50 : Int), (100 : Int), (100 : Int), (200 : Int)])
        [[97, 108, 116, 111], [98, 97, 115, 115], [115, 111, 108, 105]] items [] = _ := e
      rw [e']
      refine QRp_mono (by omega) (by omega) (ih (i + 1) a' (items ++ [it]) (by omega) (by omega) (by omega) (by simp; omega) ?_)
      intro x hx
      rcases List.mem_append.1 hx with h | h
      · exact hp x h
      · rw [List.mem_singleton.1 h]; exact h3

theorem rp_ends (L : List Int) (at_ n : Int) (h : (atOk 1000 at_ && decide (0 ≤ n) && decide (n ≤ 5)) = true) :
    Ends (QRp L at_ (at_ + 100)) (I25.run ⟨[.ptr 0 0, .dat tI n], [(0, .box [.dat (.slice tI) L, .dat tI at_])]⟩) := by
  simp only [Bool.and_eq_true, decide_eq_true_eq] at h
  obtain ⟨⟨h1, h2⟩, h3⟩ := h
  have h1 := atOk_iff.1 h1
  rw [f25_run, atOk_t h1.1 (by omega), nextAt_s h1.1 (by omega), atOk_t (k := 1) (a := at_ + 1) (by omega) (by omega), nextAt_s (a := at_ + 1) (by omega) (by omega),
      atOk_t (k := 1) (a := at_ + 1 + 1) (by omega) (by omega), nextAt_s (a := at_ + 1 + 1) (by omega) (by omega)]
  refine ends_if rfl (ends_if rfl (ends_if rfl (ends_if rfl (ends_if (dT h2) (ends_if (dT h3) ?_)))))
  generalize hx : List.drop (Int.toNat 0) (List.take (Int.toNat n) ([[99], [97], [100], [98], [101]] : List Bytes)) = xs
  have hl : xs.length ≤ 5 := by
    rw [← hx, List.length_drop, List.length_take]
    show min _ 5 - _ ≤ 5
    omega
  exact QRp_mono (by omega) (by omega) (rp0 xs hl L 0 0 0 0 _ _ _ _ xs.length 0 (at_ + 1 + 1 + 1) [] (by omega) (by omega) (by omega) (by simp) (by simp))

theorem rightP_spec (L : List Int) (at_ n : Int) (h : (atOk 1000 at_ && decide (0 ≤ n) && decide (n ≤ 5)) = true) :
    (at_ ≤ (rightP L at_ n).1 ∧ (rightP L at_ n).1 ≤ at_ + 200 ∧ (rightP L at_ n).2.1.length ≤ 5 ∧ ∀ x ∈ (rightP L at_ n).2.1, x.2.2.2.length ≤ 5) ∧
    I25.run ⟨[.ptr 0 0, .dat tI n], [(0, .box [.dat (.slice tI) L, .dat tI at_])]⟩ = some ⟨[.agg [.slc 2, .dat tI (rightP L at_ n).2.2.1, .dat tI (rightP L at_ n).2.2.2.1, .dat tI (rightP L at_ n).2.2.2.2.1, .dat tI (rightP L at_ n).2.2.2.2.2]],
      [(0, .box [.dat (.slice tI) L, .dat tI (rightP L at_ n).1]), (2, .arr tItem (rightP L at_ n).2.1)]⟩ := by
  obtain ⟨f, hf, a', items, p, q, r, s, rfl, h1, h2, h3, h4⟩ := rp_ends L at_ n h
  refine Classical.epsilon_spec (p := fun p : Int × List Item × Int × Int × Int × Int => (at_ ≤ p.1 ∧ p.1 ≤ at_ + 200 ∧ p.2.1.length ≤ 5 ∧ ∀ x ∈ p.2.1, x.2.2.2.length ≤ 5) ∧
    I25.run ⟨[.ptr 0 0, .dat tI n], [(0, .box [.dat (.slice tI) L, .dat tI at_])]⟩ = some ⟨[.agg [.slc 2, .dat tI p.2.2.1, .dat tI p.2.2.2.1, .dat tI p.2.2.2.2.1, .dat tI p.2.2.2.2.2]], [(0, .box [.dat (.slice tI) L, .dat tI p.1]), (2, .arr tItem p.2.1)]⟩)
    ⟨(a', items, p, q, r, s), ⟨h1, by show a' ≤ _; omega, h3, h4⟩, hf⟩

theorem r25 : R25 := fun a0 L at_ h => (rightP_spec L at_ a0 h).2

end Go.Ev.N

set_option linter.unusedVariables false
set_option linter.unusedSimpArgs false
namespace Go.Ev.N
open Go Go.Ev Go.Proofs
def QAp (L : List Int) (a b : Int) (f : Fr) : Prop := ∃ (a' : Int) (p : Prgm),
  f = ⟨[.dat tPrgm p], [(0, .box [.dat (.slice tI) L, .dat tI a'])]⟩ ∧ a ≤ a' ∧ a' ≤ b ∧ p.1.length ≤ 5

theorem ap_ends (L : List Int) (at_ n : Int) (h : (atOk 2000 at_ && decide (4 ≤ n) && decide (n ≤ 5)) = true) :
    Ends (QAp L at_ (at_ + 400)) (I4.run ⟨[.ptr 0 0, .dat tI n], [(0, .box [.dat (.slice tI) L, .dat tI at_])]⟩) := by
  simp only [Bool.and_eq_true, decide_eq_true_eq] at h
  have h1 := atOk_iff.1 h.1.1
  have hk : (atOk 1000 at_ && decide ((0 : Int) ≤ n) && decide (n ≤ 5)) = true := by rw [atOk_t h1.1 (by omega), dT (by omega), dT (by omega)]; rfl
  obtain ⟨⟨s1, s2, s3, s4⟩, _⟩ := rightP_spec L at_ n hk
  rw [f4_run]
  refine ends_if hk ?_
  generalize rightP L at_ n = P at *
  obtain ⟨a, its, p, q, r, s⟩ := P
  simp only at s1 s2 s3 s4 ⊢
  simp (disch := omega) only [nextAt_s, oddAt]
  have leaf : ∀ (a' : Int) (p : Prgm), at_ ≤ a' → a' ≤ at_ + 400 → p.1.length ≤ 5 → Ends (QAp L at_ (at_ + 400)) (some ⟨[.dat tPrgm p], [(0, .box [.dat (.slice tI) L, .dat tI a'])]⟩) :=
    fun a' p h1 h2 h3 => ends_some ⟨a', p, rfl, h1, h2, h3⟩
  refine ends_if (atOk_t (by omega) (by omega)) (ends_cond (fun _ => ?_) (fun _ => ?_))
  · refine ends_if (atOk_t (by omega) (by omega)) (ends_cond (fun _ => ?_) (fun _ => ends_cond (fun _ => ?_) (fun _ => ends_cond (fun hl => ?_) (fun _ => ?_))))
    · exact ends_if (atOk_t (by omega) (by omega)) (leaf _ _ (by omega) (by omega) s3)
    · exact ends_if (atOk_t (by omega) (by omega)) (ends_if (atOk_t (by omega) (by omega)) (ends_if (atOk_t (by omega) (by omega)) (leaf _ _ (by omega) (by omega) s3)))
    · have hl' : 0 < its.length := by simpa using hl
      obtain ⟨k1, k2⟩ := next_range L (a + 1 + 1) (n := (its.length : Int)) (by omega) (by omega)
      generalize hk : next L (a + 1 + 1) its.length = k at *
      have k3 : Int.toNat k < its.length := by omega
      have k4 : (List.getD its (Int.toNat k) (Tc.dflt tItem)).2.2.2.length ≤ 5 := by
        rw [getI _ _ _ k1 k3]; exact s4 _ (List.getElem_mem ..)
      repeat' first
        | exact leaf _ _ (by omega) (by omega) (by simp only [List.length_set]; exact s3)
        | refine ends_if (atOk_t (by omega) (by omega)) ?_
        | refine ends_if (dT k1) ?_
        | refine ends_if (dT k2) ?_
        | refine ends_if (dT (by simp only [List.length_set]; exact k3)) ?_
        | refine ends_if (dT (by omega)) ?_
        | refine ends_if (atOk_and (by omega) (by omega) rfl rfl) ?_
        | refine ends_if (dT (by simp only [List.length_cons, List.length_nil]; omega)) ?_
    · first
        | exact leaf _ _ (by omega) (by omega) s3
        | exact ends_if (atOk_t (by omega) (by omega)) (leaf _ _ (by omega) (by omega) s3)
  · first
      | exact leaf _ _ (by omega) (by omega) s3
      | exact ends_if (atOk_t (by omega) (by omega)) (leaf _ _ (by omega) (by omega) s3)

theorem aProg_spec (L : List Int) (at_ n : Int) (h : (atOk 2000 at_ && decide (4 ≤ n) && decide (n ≤ 5)) = true) :
    (at_ ≤ (aProg L at_ n).1 ∧ (aProg L at_ n).1 ≤ at_ + 400 ∧ (aProg L at_ n).2.1.length ≤ 5) ∧
    I4.run ⟨[.ptr 0 0, .dat tI n], [(0, .box [.dat (.slice tI) L, .dat tI at_])]⟩ = some ⟨[.dat tPrgm (aProg L at_ n).2], [(0, .box [.dat (.slice tI) L, .dat tI (aProg L at_ n).1])]⟩ := by
  obtain ⟨f, hf, a', p, rfl, h1, h2, h3⟩ := ap_ends L at_ n h
  exact Classical.epsilon_spec (p := fun p : Int × Prgm => (at_ ≤ p.1 ∧ p.1 ≤ at_ + 400 ∧ p.2.1.length ≤ 5) ∧
    I4.run ⟨[.ptr 0 0, .dat tI n], [(0, .box [.dat (.slice tI) L, .dat tI at_])]⟩ = some ⟨[.dat tPrgm p.2], [(0, .box [.dat (.slice tI) L, .dat tI p.1])]⟩)
    ⟨(a', p), ⟨h1, h2, h3⟩, hf⟩

theorem r4 : R4 := fun a0 L at_ h => (aProg_spec L at_ a0 h).2

theorem wrap_l (x y : Int) : wrap .i64 (wrap .i64 x + y) = wrap .i64 (x + y) := by
  simp only [wrap, IntKind.wrap_i64]
  omega
theorem wrap_r (x y : Int) : wrap .i64 (x + wrap .i64 y) = wrap .i64 (x + y) := by
  rw [Int.add_comm, wrap_l, Int.add_comm]

theorem tt_tim (p : Prgm) (fr : Int) : ∀ (l : List Item) (i a f : Int), f = wrap .i64 (fr + a) → ttGo fr (begGo p i a l).1 l = timGo p i f l
  | [], _, _, _, _ => rfl
  | [x], i, a, f, h => by subst h; rfl
  | x :: y :: l, i, a, f, h => by
    have ih := tt_tim p fr (y :: l) (i + 1) (wrap .i64 (wrap .i64 (a + x.2.2.1) + gapAt p i x y)) (wrap .i64 (wrap .i64 (f + x.2.2.1) + gapAt p i x y)) (by
      subst h
      simp only [wrap, IntKind.wrap_i64]
      omega)
    simp only [begGo, timGo, ttGo]
    rw [ih, h]

theorem long_last (p : Prgm) : ∀ (l : List Item) (x : Item) (i a : Int), ∃ t, (timGo p i a (x :: l)).getLast? = some t ∧ t.2.2 = (begGo p i a (x :: l)).2
  | [], x, i, a => ⟨_, rfl, rfl⟩
  | y :: l, x, i, a => by
    obtain ⟨t, h1, h2⟩ := long_last p l y (i + 1) (wrap .i64 (wrap .i64 (a + x.2.2.1) + gapAt p i x y))
    refine ⟨t, ?_, h2⟩
    simp only [timGo]
    rw [List.getLast?_cons, h1]; rfl

theorem long_eq (p : Prgm) : longR p = (begGo p 0 0 p.1).2 := by
  unfold longR
  cases p.1 with
  | nil => rfl
  | cons x l =>
    obtain ⟨t, h1, h2⟩ := long_last p l x 0 0
    rw [h1]; exact h2

theorem fromF_eq (p : Prgm) (f : Int) (h : checkProg keyR p = 0) : fromF p f = beginF p f := by
  unfold fromF beginF isMom
  rw [isKey_fun, h, long_eq, outside_in, Bool.not_not]
  rfl


end Go.Ev.N

set_option linter.unusedVariables false
set_option linter.unusedSimpArgs false
namespace Go.Ev.N
open Go Go.Ev Go.Proofs
theorem outside_false {n lo hi : Int} (h : outside n lo hi = false) : lo ≤ n ∧ n ≤ hi := by
  unfold outside at h
  simp at h
  omega
theorem go16 (xs : List Int) (hb : xs.length ≤ 1000) : ∀ (m i : Nat), i + m = xs.length →
    f16h0 xs xs.length i = some ⟨[.dat tI (firstE (xs.drop i))], []⟩ := by
  intro m
  induction m with
  | zero => intro i hi; rw [f16h0_eq, condF (dlt_not (by omega)), dnil (xs := xs) (i := i) (by omega)]; rfl
  | succ m ih =>
    intro i hi
    have hlt : i < xs.length := by omega
    rw [f16h0_eq]
    rw [condT (dT (by first | omega | (simp only [List.length_append, List.length_cons, List.length_nil, List.length_set, List.length_take, List.length_drop, List.length_map]; omega) | (simp; omega)))]
    rw [condT (dT (by first | omega | (simp only [List.length_append, List.length_cons, List.length_nil, List.length_set, List.length_take, List.length_drop, List.length_map]; omega) | (simp; omega)))]
    rw [condT (dT (by first | omega | (simp only [List.length_append, List.length_cons, List.length_nil, List.length_set, List.length_take, List.length_drop, List.length_map]; omega) | (simp; omega)))]
    rw [getN _ _ _ hlt, wsucc (by omega), ih (i + 1) (by omega), dcons hlt, firstE]
    show cond (!(xs[i] == 0)) _ _ = _
    cases xs[i] == 0 <;> rfl
theorem r16 : R16 := by
  intro a0 h
  simp only [decide_eq_true_eq] at h
  rw [f16_run]
  exact go16 a0 h a0.length 0 (by omega)

theorem go23 (a b : List Bytes) (hl : a.length = b.length) (hb : a.length ≤ 1000) : ∀ (m i : Nat), i + m = a.length → f23h0 a b a.length i = some ⟨[.dat .bool (a.drop i == b.drop i)], []⟩ := by
  intro m
  induction m with
  | zero => intro i hi; rw [f23h0_eq, dlt_not (by omega), dnil (xs := a) (by omega), dnil (xs := b) (by omega)]; rfl
  | succ m ih =>
    intro i hi
    have hlt : i < a.length := by omega
    have hlt' : i < b.length := by omega
    rw [f23h0_eq, dlt hlt, dlt hlt', dle0, getN _ _ _ hlt, getN _ _ _ hlt', wsucc (by omega), ih (i + 1) (by omega), dcons hlt, dcons hlt', List.cons_beq_cons]
    simp only [cond_true]
    cases a[i] == b[i] <;> rfl
theorem r23 : R23 := by
  intro a0 a1 h
  simp only [decide_eq_true_eq] at h
  rw [f23_run]
  cases hn : ((a0.length : Int) != (a1.length : Int)) with
  | true =>
    have : a0 ≠ a1 := by
      intro e; subst e; simp at hn
    have : (a0 == a1) = false := by simpa using this
    rw [this]; rfl
  | false =>
    have hl : a0.length = a1.length := by simp at hn; omega
    exact go23 a0 a1 hl h a0.length 0 (by omega)
theorem r9 : R9 := by
  intro a0 h
  simp only [decide_eq_true_eq] at h
  rw [f9_run, condT (dT (by simp; omega))]
  cases a0 with
  | nil => simp [both_self]
  | cons x l => simp

theorem idxBy_split {α : Type} (p : α → Bool) : ∀ (l : List α) (s : Nat), (idxBy p l s = -1 ∧ l.filter (fun o => !p o) = l) ∨
    ∃ n, n < l.length ∧ idxBy p l s = ((s + n : Nat) : Int) ∧ l.take n ++ (l.drop (n + 1)).filter (fun o => !p o) = l.filter (fun o => !p o)
  | [], s => .inl ⟨rfl, rfl⟩
  | x :: l, s => by
    cases hx : p x with
    | true => exact .inr ⟨0, by simp, by simp [idxBy, hx], by simp [hx]⟩
    | false =>
      rcases idxBy_split p l (s + 1) with ⟨h1, h2⟩ | ⟨n, h1, h2, h3⟩
      · refine .inl ⟨?_, ?_⟩
        · simp only [idxBy, hx, cond_false]; exact h1
        · rw [List.filter_cons, hx]; simp only [Bool.not_false, if_true]; rw [h2]
      · refine .inr ⟨n + 1, by simp; omega, ?_, ?_⟩
        · simp only [idxBy, hx, cond_false]; rw [h2]; congr 1; omega
        · rw [List.take_succ_cons, List.drop_succ_cons, List.filter_cons, hx]; simp only [Bool.not_false, if_true]; rw [← h3]; rfl
theorem go60 (a : List Bytes) (x : Bytes) (ha : a.length ≤ 1000000) : ∀ (m i : Nat), i + m = a.length → f60h0 a x a.length i = some ⟨[.dat tI (idxS x (a.drop i) i)], []⟩ := by
  intro m
  induction m with
  | zero => intro i hi; rw [f60h0_eq, condF (dlt_not (by omega)), dnil (xs := a) (i := i) (by omega)]; rfl
  | succ m ih =>
    intro i hi
    have hlt : i < a.length := by omega
    rw [f60h0_eq]
    rw [condT (dT (by first | omega | (simp only [List.length_append, List.length_cons, List.length_nil, List.length_set, List.length_take, List.length_drop, List.length_map]; omega) | (simp; omega)))]
    rw [condT (dT (by first | omega | (simp only [List.length_append, List.length_cons, List.length_nil, List.length_set, List.length_take, List.length_drop, List.length_map]; omega) | (simp; omega)))]
    rw [condT (dT (by first | omega | (simp only [List.length_append, List.length_cons, List.length_nil, List.length_set, List.length_take, List.length_drop, List.length_map]; omega) | (simp; omega)))]
    rw [getN _ _ _ hlt, dcons hlt, wsucc (by omega), ih (i + 1) (by omega)]
    simp only [idxS]
    cases x == a[i] <;> rfl
theorem r60 : R60 := by
  intro a0 a1 h
  rw [f60_run]
  exact go60 a0 a1 (by simpa using h) a0.length 0 (by omega)
theorem r46 : R46 := by
  intro a0 a1 h
  rw [f46_run, h]; rfl
theorem parts_mem {l : List Item} (h : partsOk l = true) {x : Item} (hx : x ∈ l) : x.2.2.2.length ≤ 1000 := by
  have := List.all_eq_true.1 h x hx
  simpa using this
theorem parts_of {l : List Item} (h : ∀ x ∈ l, x.2.2.2.length ≤ 1000) : partsOk l = true := List.all_eq_true.2 fun x hx => by simpa using h x hx

theorem part_len (key : Bytes → Bool) (l : List Bytes) (h : partsF key l = 0) : l.length ≤ 12 := by
  unfold partsF at h
  cases h1 : (l.length : Int) == 0 with
  | true => rw [h1] at h; cases h
  | false =>
    rw [h1] at h
    cases h2 : decide ((l.length : Int) > 12) with
    | true => rw [h2] at h; cases h
    | false => have : ¬ (l.length : Int) > 12 := by simpa using h2
               omega
theorem items_ok (key : Bytes → Bool) : ∀ (l pre : List Item), itemsGo key pre l = 0 → (∀ a ∈ pre, ∀ x ∈ l, a.1 ≠ x.1) ∧ List.Pairwise (fun a b : Item => a.1 ≠ b.1) l ∧ ∀ x ∈ l, x.2.2.2.length ≤ 12
  | [], pre, _ => ⟨fun _ _ _ h => (by cases h), List.Pairwise.nil, fun _ h => (by cases h)⟩
  | x :: l, pre, h => by
    rw [itemsGo] at h
    cases h1 : !key x.1 || !key x.2.1 with
    | true => rw [h1] at h; cases h
    | false =>
      rw [h1, cond_false] at h
      cases h2 : pre.any fun o => o.1 == x.1 with
      | true => rw [h2] at h; cases h
      | false =>
        rw [h2, cond_false] at h
        cases h3 : outside x.2.2.1 1 86400000 with
        | true => rw [h3] at h; cases h
        | false =>
          rw [h3, cond_false] at h
          cases h4 : partsF key x.2.2.2 != 0 with
          | true => rw [h4, cond_true] at h; rw [h] at h4; cases h4
          | false =>
            rw [h4, cond_false] at h
            obtain ⟨g1, g2, g3⟩ := items_ok key l (pre ++ [x]) h
            have hp : partsF key x.2.2.2 = 0 := by
              have : (!(partsF key x.2.2.2 == 0)) = false := h4
              simpa using this
            refine ⟨fun a ha y hy => ?_, List.Pairwise.cons (fun y hy => g1 x (List.mem_append_right _ (List.mem_singleton.2 rfl)) y hy) g2, fun y hy => ?_⟩
            · rcases List.mem_cons.1 hy with rfl | hy
              · have := List.any_eq_false.1 h2 a ha
                simpa using this
              · exact g1 a (List.mem_append_left _ ha) y hy
            · rcases List.mem_cons.1 hy with rfl | hy
              · exact part_len key _ hp
              · exact g3 y hy
theorem prog_ok {p : Prgm} (h : checkProg keyR p = 0) : partsOk p.1 = true := by
  unfold checkProg at h
  have hc : checkItems keyR p.1 = 0 := by
    cases h1 : checkItems keyR p.1 != 0 with
    | true => rw [h1, cond_true] at h; exact h
    | false => have : (!(checkItems keyR p.1 == 0)) = false := h1
               simpa using this
  unfold checkItems at hc
  cases h2 : decide ((p.1.length : Int) > 60) with
  | true => rw [h2] at hc; cases hc
  | false =>
    rw [h2, cond_false] at hc
    obtain ⟨_, g2, g3⟩ := items_ok keyR p.1 [] hc
    exact parts_of fun x hx => by have := g3 x hx; omega
theorem go41a (xs : List Item) (hb : xs.length ≤ 1000) (k : Bytes) : ∀ (m i : Nat), i + m = xs.length →
    f41ah0 xs xs.length i k = some ⟨[.dat tI (idxBy (fun o => t50_0 o k) (xs.drop i) i)], [(0, .box [.dat .str k])]⟩ := by
  intro m
  induction m with
  | zero => intro i hi; rw [f41ah0_eq, condF (dlt_not (by omega)), dnil (xs := xs) (i := i) (by omega)]; rfl
  | succ m ih =>
    intro i hi
    have hlt : i < xs.length := by omega
    rw [f41ah0_eq]
    rw [condT (dT (by first | omega | (simp only [List.length_append, List.length_cons, List.length_nil, List.length_set, List.length_take, List.length_drop, List.length_map]; omega) | (simp; omega)))]
    rw [condT (dT (by first | omega | (simp only [List.length_append, List.length_cons, List.length_nil, List.length_set, List.length_take, List.length_drop, List.length_map]; omega) | (simp; omega)))]
    rw [condT (dT (by first | omega | (simp only [List.length_append, List.length_cons, List.length_nil, List.length_set, List.length_take, List.length_drop, List.length_map]; omega) | (simp; omega)))]
    rw [getN _ _ _ hlt, wsucc (by omega), ih (i + 1) (by omega), dcons hlt]
    simp only [idxBy]
    cases t50_0 xs[i] k <;> rfl
theorem r41a : R41a := by
  intro a0 k h
  simp only [decide_eq_true_eq] at h
  rw [f41a_run]
  exact go41a a0 h k a0.length 0 (by omega)
theorem r47 : R47 := by
  intro a0 a1 h
  rw [f47_run, condT (a := some _) h]
  have e : (a0 == a1) = (a0.1 == a1.1 && (a0.2.1 == a1.2.1 && (a0.2.2.1 == a1.2.2.1 && a0.2.2.2 == a1.2.2.2))) := rfl
  rw [e]
  cases a0.1 == a1.1 with
  | false => rfl
  | true =>
    cases a0.2.1 == a1.2.1 with
    | false => rfl
    | true => cases a0.2.2.1 == a1.2.2.1 <;> rfl
theorem ix_lt (xs : List Item) (k : Bytes) (h : ¬ itemIx xs k < 0) : 0 ≤ itemIx xs k ∧ itemIx xs k < (xs.length : Int) := by
  rcases idxBy_split (fun (o : Item) => o.1 == k) xs 0 with ⟨h1, _⟩ | ⟨n, h1, h2, _⟩
  · exfalso; apply h; show idxBy (fun (o : Item) => o.1 == k) xs 0 < 0; rw [h1]; decide
  · have : itemIx xs k = ((0 + n : Nat) : Int) := h2
    omega
theorem getD_mem (xs : List Item) (k : Bytes) (h : ¬ itemIx xs k < 0) : xs.getD (itemIx xs k).toNat (Tc.dflt tItem) ∈ xs := by
  have := ix_lt xs k h
  have hl : (itemIx xs k).toNat < xs.length := by omega
  rw [List.getD_eq_getElem?_getD, List.getElem?_eq_getElem hl]
  exact List.getElem_mem hl
theorem loop159 (x0 : Int) (k0 : Nat) : ∀ (m : Nat) (k j : Nat) (l : List Bytes), k0 + j + m = l.length → k < k0 + j → 0 < j → l.length ≤ 1000000 → k0 < l.length →
    f59h2 k k0 j l = some ⟨[.dat (.slice .str) (l.take k ++ ddS (l.getD (k0 + j - 1) []) (l.drop (k0 + j)))], [(0, .dead)]⟩
  | 0, k, j, l, hm, hk, hj, hl, h0 => by
    rw [f59h2_eq]
    rw [condT (dT (by first | omega | (simp only [List.length_append, List.length_cons, List.length_nil, List.length_set, List.length_take, List.length_drop, List.length_map]; omega) | (simp; omega)))]
    rw [condF (dF (by omega))]
    repeat (rw [condT (dT (by first | omega | (simp only [List.length_append, List.length_cons, List.length_nil, List.length_set, List.length_take, List.length_drop, List.length_map]; omega) | (simp; omega)))])
    rw [dnil (xs := l) (i := k0 + j) (by omega)]
    simp [ddS]
    exact List.take_left' (by rw [List.length_take]; omega)
  | m + 1, k, j, l, hm, hk, hj, hl, h0 => by
    have h1 : k0 + j < l.length := by omega
    have h2 : k0 + (j - 1) < l.length := by omega
    have ej : wrap .i64 ((j : Int) - 1) = ((j - 1 : Nat) : Int) := by rw [wrap_in (by omega) (by omega)]; omega
    rw [f59h2_eq, ej]
    repeat (rw [condT (dT (by first | omega | (simp only [List.length_append, List.length_cons, List.length_nil, List.length_set, List.length_take, List.length_drop, List.length_map]; omega) | (simp; omega)))])
    simp only [Int.toNat_natCast]
    have hd : l.drop (k0 + j) = l.getD (k0 + j) [] :: l.drop (k0 + j + 1) := by
      rw [dcons h1, List.getD_eq_getElem?_getD, List.getElem?_eq_getElem h1]; rfl
    have ep : k0 + (j - 1) = k0 + j - 1 := by omega
    rw [hd, ddS, wsucc (by omega), wsucc (by omega), ep]
    have g1 : List.getD l (k0 + j) (Tc.dflt .str) = l.getD (k0 + j) [] := rfl
    have g2 : List.getD l (k0 + j - 1) (Tc.dflt .str) = l.getD (k0 + j - 1) [] := rfl
    rw [g1, g2]
    by_cases he : l.getD (k0 + j) [] = l.getD (k0 + j - 1) []
    · rw [condF (by rw [he]; simp)]
      rw [loop159 x0 k0 m k (j + 1) l (by omega) (by omega) (by omega) hl h0, condT (by rw [he]; simp)]
      rfl
    · rw [condT (by simpa using he), condF (a := ddS _ _) (by simpa using he)]
      repeat (rw [condT (dT (by first | omega | (simp only [List.length_append, List.length_cons, List.length_nil, List.length_set, List.length_take, List.length_drop, List.length_map]; omega) | (simp; omega)))])
      have := loop159 x0 k0 m (k + 1) (j + 1) (l.set k (l.getD (k0 + j) [])) (by rw [List.length_set]; omega) (by omega) (by omega) (by rw [List.length_set]; omega) (by rw [List.length_set]; omega)
      rw [this]
      congr 4
      have hk' : k < l.length := by omega
      have a1 : (l.set k (l.getD (k0 + j) [])).take (k + 1) = l.take k ++ [l.getD (k0 + j) []] := by
        rw [List.take_add_one, List.take_set_of_le (Nat.le_refl k), List.getElem?_set_self hk']; rfl
      have a2 : (l.set k (l.getD (k0 + j) [])).drop (k0 + (j + 1)) = l.drop (k0 + j + 1) := by
        rw [List.drop_set_of_lt (by omega)]; rfl
      have a3 : (l.set k (l.getD (k0 + j) [])).getD (k0 + (j + 1) - 1) [] = l.getD (k0 + j) [] := by
        rw [List.getD_eq_getElem?_getD, List.getElem?_set_ne (by omega), ← List.getD_eq_getElem?_getD]; rfl
      rw [a1, a2, a3, List.append_assoc]; rfl

theorem loop059 : ∀ (m k : Nat) (l : List Bytes), k + m = l.length → 0 < k → l.length ≤ 1000000 →
    f59h0 k l = some ⟨[.dat (.slice .str) (l.take k ++ ddS (l.getD (k - 1) []) (l.drop k))], [(0, .dead)]⟩
  | 0, k, l, hm, hk, hl => by
    rw [f59h0_eq, condF (dlt_not (by omega)), dnil (xs := l) (i := k) (by omega), List.take_of_length_le (by omega)]
    simp [ddS]
  | m + 1, k, l, hm, hk, hl => by
    have h1 : k < l.length := by omega
    have ej : wrap .i64 ((k : Int) - 1) = ((k - 1 : Nat) : Int) := by rw [wrap_in (by omega) (by omega)]; omega
    rw [f59h0_eq, ej]
    repeat (rw [condT (dT (by first | omega | (simp only [List.length_append, List.length_cons, List.length_nil, List.length_set, List.length_take, List.length_drop, List.length_map]; omega) | (simp; omega)))])
    simp only [Int.toNat_natCast]
    have hd : l.drop k = l.getD k [] :: l.drop (k + 1) := by
      rw [dcons h1, List.getD_eq_getElem?_getD, List.getElem?_eq_getElem h1]; rfl
    have g1 : List.getD l k (Tc.dflt .str) = l.getD k [] := rfl
    have g2 : List.getD l (k - 1) (Tc.dflt .str) = l.getD (k - 1) [] := rfl
    rw [hd, ddS, g1, g2, wsucc (by omega)]
    by_cases he : l.getD k [] = l.getD (k - 1) []
    · rw [condT (by simpa using he), condT (a := ddS _ _) (by simpa using he)]
      have := loop159 k k m k 1 l (by omega) (by omega) (by omega) hl h1
      rw [show (1 : Int) = ((1 : Nat) : Int) from rfl, this]
      rfl
    · rw [condF (by simpa using he), condF (a := ddS _ _) (by simpa using he)]
      rw [loop059 m (k + 1) l (by omega) (by omega) hl]
      have a1 : l.take (k + 1) = l.take k ++ [l.getD k []] := by
        rw [List.take_add_one, List.getElem?_eq_getElem h1, List.getD_eq_getElem?_getD, List.getElem?_eq_getElem h1]; rfl
      rw [a1, List.append_assoc]; rfl

theorem r59 : R59 := by
  intro a0 h
  simp only [decide_eq_true_eq] at h
  rw [f59_run]
  match a0, h with
  | [], h => rfl
  | [a], h => rfl
  | a :: b :: l, h =>
    rw [condF (dF (by simp; omega))]
    exact loop059 (b :: l).length 1 (a :: b :: l) (by simp; omega) (by omega) h


end Go.Ev.N

set_option linter.unusedVariables false
set_option linter.unusedSimpArgs false
namespace Go.Ev.N
open Go Go.Ev Go.Proofs
theorem r71 : R71 := by
  intro a b a0 h
  simp only [Bool.and_eq_true, decide_eq_true_eq, beq_iff_eq] at h
  obtain ⟨⟨h1, rfl⟩, rfl⟩ := h
  rw [f71_run, f71h0_eq, condF (show decide (wrap .i64 ((0 : Int) + 1) < 0) = false from by decide)]
theorem r67 : R67 := by
  intro a b lim a0 h
  have h0 := h
  simp only [Bool.and_eq_true, decide_eq_true_eq, beq_iff_eq] at h
  obtain ⟨⟨h1, rfl⟩, rfl⟩ := h
  rw [f67_run, f67h0_eq, condT (show decide (wrap .i64 ((0 : Int) - 0) ≤ 12) = true from by decide), condT h0]
theorem r58 : R58 := by
  intro a0 h
  simp only [decide_eq_true_eq, List.length_eq_zero_iff] at h
  subst h
  rw [f58_run]
  exact (condT (show t68_ok (wrap .u64 (((([] : List Bytes).length : Nat)) : Int)) = true from by decide +kernel)).trans rfl
theorem r58a (hE : EnvOk Tryz.prog En58) : R58a := by
  refine ⟨split_sound (hE.fss 58 S58 rfl).1 (sortS_sound Tryz.lays190) (fun x h => ?_), enters_of Tryz.func58 rfl rfl⟩
  obtain ⟨l, _⟩ := x
  have h' : l.length ≤ 1000000 := of_decide_eq_true h
  cases l with
  | nil =>
    refine .inl ⟨rfl, ?_⟩
    have : sortB [] = [] := by unfold sortB; simp
    show (⟨[], [(0, .arr .str ([] : List Bytes))]⟩ : Fr) = ⟨[], [(0, .arr .str (sortB []))]⟩
    rw [this]
  | cons x l =>
    refine .inr ⟨?_, rfl⟩
    show (decide (0 < (x :: l).length) && decide ((x :: l).length ≤ 1000000)) = true
    rw [dT (by simp), dT h']; rfl
theorem sortB_len (l : List Bytes) : (sortB l).length = l.length := List.length_mergeSort l
theorem sortB_mem (l : List Bytes) (x : Bytes) : x ∈ sortB l ↔ x ∈ l := (List.mergeSort_perm l _).mem_iff
theorem ddS_mem : ∀ (a : Bytes) (l : List Bytes) (x : Bytes), x = a ∨ x ∈ ddS a l ↔ x = a ∨ x ∈ l
  | a, [], x => Iff.rfl
  | a, b :: l, x => by
    have ih := ddS_mem b l x
    unfold ddS
    cases h : b == a with
    | true =>
      have e : b = a := by simpa using h
      subst e
      simp only [cond_true, List.mem_cons]
      rw [ih]
      exact ⟨fun h => h.elim .inl (fun h => .inr (.inr h)), fun h => h.elim .inl id⟩
    | false =>
      simp only [cond_false, List.mem_cons]
      rw [ih]
theorem compS_mem (l : List Bytes) (x : Bytes) : x ∈ compS l ↔ x ∈ l := by
  cases l with
  | nil => exact Iff.rfl
  | cons a l => simp only [compS, List.mem_cons]; exact ddS_mem a l x
theorem ddS_len : ∀ (a : Bytes) (l : List Bytes), (ddS a l).length ≤ l.length
  | _, [] => Nat.le_refl _
  | a, b :: l => by
    unfold ddS
    have := ddS_len b l
    cases b == a <;> simp only [cond_true, cond_false, List.length_cons] <;> omega
theorem compS_len (l : List Bytes) : (compS l).length ≤ l.length := by
  cases l with
  | nil => exact Nat.le_refl _
  | cons a l => have := ddS_len a l; simp only [compS, List.length_cons]; omega
theorem allP_len : ∀ (l : List Item), partsOk l = true → (allP l).length ≤ 1000 * l.length
  | [], _ => by simp [allP]
  | x :: l, h => by
    have h1 := parts_mem h (List.mem_cons_self ..)
    have ih := allP_len l (parts_of fun y hy => parts_mem h (List.mem_cons_of_mem _ hy))
    have e : allP (x :: l) = x.2.2.2 ++ allP l := rfl
    rw [e, List.length_append, List.length_cons]; omega
theorem partsR_len (l : List Item) (h : partsOk l = true) : (partsR l).length ≤ 1000 * l.length := by
  unfold partsR
  refine Nat.le_trans (compS_len _) ?_
  rw [sortB_len]; exact allP_len l h
theorem partsR_mem (l : List Item) (x : Bytes) : x ∈ partsR l ↔ ∃ y ∈ l, x ∈ y.2.2.2 := by
  unfold partsR
  rw [compS_mem, sortB_mem]
  unfold allP
  rw [List.mem_flatMap]
theorem go44 (xs : List Item) (hb : xs.length ≤ 100) (hp : partsOk xs = true) : ∀ (m i : Nat) (out : List Bytes), i + m = xs.length → out.length ≤ 1000 * i →
    f44h0 xs xs.length i out = some ⟨[.dat (.slice .str) (compS (sortB (out ++ allP (xs.drop i))))], []⟩ := by
  intro m
  induction m with
  | zero =>
    intro i out hi ho
    rw [f44h0_eq, condF (dlt_not (by omega)), condT (dT (by omega)), condT (dT (by rw [sortB_len]; omega)), dnil (xs := xs) (by omega)]
    have e : allP [] = [] := rfl
    rw [e, List.append_nil]
  | succ m ih =>
    intro i out hi ho
    have hlt : i < xs.length := by omega
    have hx := parts_mem hp (List.getElem_mem hlt)
    rw [f44h0_eq]
    rw [condT (dT (by first | omega | (simp only [List.length_append, List.length_cons, List.length_nil, List.length_set, List.length_take, List.length_drop, List.length_map]; omega) | (simp; omega)))]
    rw [condT (dT (by first | omega | (simp only [List.length_append, List.length_cons, List.length_nil, List.length_set, List.length_take, List.length_drop, List.length_map]; omega) | (simp; omega)))]
    rw [condT (dT (by first | omega | (simp only [List.length_append, List.length_cons, List.length_nil, List.length_set, List.length_take, List.length_drop, List.length_map]; omega) | (simp; omega)))]
    rw [getN _ _ _ hlt, condT (dT (by omega)), wsucc (by omega), ih (i + 1) _ (by omega) (by rw [List.length_append]; omega), dcons hlt]
    have e : allP (xs[i] :: xs.drop (i + 1)) = xs[i].2.2.2 ++ allP (xs.drop (i + 1)) := rfl
    rw [e, List.append_assoc]
theorem r44 : R44 := by
  intro a0 h
  simp only [Bool.and_eq_true, decide_eq_true_eq] at h
  rw [f44_run]
  exact go44 a0 h.1 h.2 a0.length 0 [] (by omega) (by simp)
theorem go53 (xs : List Bytes) (hb : xs.length ≤ 1000) (es : List (Bytes × Bool)) : ∀ (m i : Nat), i + m = xs.length →
    f53h0 xs xs.length i es = some ⟨[.dat tI (idxBy (fun o => t34_0 o es) (xs.drop i) i)], [(0, .box [.mp 1]), (1, .map .str .bool es)]⟩ := by
  intro m
  induction m with
  | zero => intro i hi; rw [f53h0_eq, condF (dlt_not (by omega)), dnil (xs := xs) (i := i) (by omega)]; rfl
  | succ m ih =>
    intro i hi
    have hlt : i < xs.length := by omega
    rw [f53h0_eq]
    rw [condT (dT (by first | omega | (simp only [List.length_append, List.length_cons, List.length_nil, List.length_set, List.length_take, List.length_drop, List.length_map]; omega) | (simp; omega)))]
    rw [condT (dT (by first | omega | (simp only [List.length_append, List.length_cons, List.length_nil, List.length_set, List.length_take, List.length_drop, List.length_map]; omega) | (simp; omega)))]
    rw [condT (dT (by first | omega | (simp only [List.length_append, List.length_cons, List.length_nil, List.length_set, List.length_take, List.length_drop, List.length_map]; omega) | (simp; omega)))]
    rw [getN _ _ _ hlt, wsucc (by omega), ih (i + 1) (by omega), dcons hlt]
    simp only [idxBy]
    cases t34_0 xs[i] es <;> rfl
theorem r53 : R53 := by
  intro a0 es h
  simp only [decide_eq_true_eq] at h
  rw [f53_run]
  exact go53 a0 h es a0.length 0 (by omega)
theorem bef1 (x : Bytes) (bef : List Bytes) (h : bef.length ≤ 1000000) : t45_ok x bef = true ∧ t45_0 x bef = !hasS bef x := by
  unfold t45_ok t45_0 t45
  rw [dT h]; exact ⟨rfl, rfl⟩
theorem go53a (xs : List Bytes) (hb : xs.length ≤ 1000) (bef : List Bytes) (h : bef.length ≤ 1000000) : ∀ (m i : Nat), i + m = xs.length →
    f53ah0 xs xs.length i bef = some ⟨[.dat tI (idxBy (fun o => t45_0 o bef) (xs.drop i) i)], [(0, .box [.dat (.slice .str) bef])]⟩ := by
  intro m
  induction m with
  | zero => intro i hi; rw [f53ah0_eq, condF (dlt_not (by omega)), dnil (xs := xs) (i := i) (by omega)]; rfl
  | succ m ih =>
    intro i hi
    have hlt : i < xs.length := by omega
    rw [f53ah0_eq]
    rw [condT (dT (by first | omega | (simp only [List.length_append, List.length_cons, List.length_nil, List.length_set, List.length_take, List.length_drop, List.length_map]; omega) | (simp; omega)))]
    rw [condT (dT (by first | omega | (simp only [List.length_append, List.length_cons, List.length_nil, List.length_set, List.length_take, List.length_drop, List.length_map]; omega) | (simp; omega)))]
    rw [condT (dT (by first | omega | (simp only [List.length_append, List.length_cons, List.length_nil, List.length_set, List.length_take, List.length_drop, List.length_map]; omega) | (simp; omega)))]
    rw [getN _ _ _ hlt, condT (bef1 _ _ h).1, wsucc (by omega), ih (i + 1) (by omega), dcons hlt]
    simp only [idxBy]
    cases t45_0 xs[i] bef <;> rfl
theorem r53a : R53a := by
  intro a0 bef h
  simp only [Bool.and_eq_true, decide_eq_true_eq] at h
  rw [f53a_run]
  exact go53a a0 h.1 bef h.2 a0.length 0 (by omega)
theorem new_any (ps : List Bytes) (es : List (Bytes × Bool)) (h : ps.length ≤ 1000) : t33_ok ps es = true ∧ t33_0 ps es = newP ps es := by
  unfold t33_ok t33_0 t33
  rw [dT h]
  refine ⟨rfl, ?_⟩
  show decide (idxBy _ ps 0 ≥ 0) = _
  rw [idxBy_any]; rfl
theorem bef_any (ps bef : List Bytes) (h : ps.length ≤ 1000) (hb : bef.length ≤ 1000000) : t33a_ok ps bef = true ∧ t33a_0 ps bef = ps.any fun k => !hasS bef k := by
  unfold t33a_ok t33a_0 t33a
  rw [dT h, dT hb]
  refine ⟨rfl, ?_⟩
  show decide (idxBy _ ps 0 ≥ 0) = _
  rw [idxBy_any]
  congr 1
  funext k
  exact (bef1 k bef hb).2

end Go.Ev.N

set_option linter.unusedVariables false
set_option linter.unusedSimpArgs false
namespace Go.Ev.N
open Go Go.Ev Go.Proofs
theorem at_ix (p : Prgm) (k : Bytes) (hb : p.1.length ≤ 1000) : t30_ok p k = true ∧ t30_0 p k = itemIx p.1 k := by
  unfold t30_ok t30_0 t30; rw [dT hb]; exact ⟨rfl, rfl⟩
theorem atQ_ix (xs : List Item) (k : Bytes) (hb : xs.length ≤ 1000) : t19_ok xs k = true ∧ t19_0 xs k = itemIx xs k := ok19 xs k hb
theorem fromF_zero {p : Prgm} {f : Int} (h : fromF p f = 0) : checkProg isKey p = 0 := by
  unfold fromF at h
  cases h1 : checkProg isKey p != 0 with
  | true => rw [h1, cond_true] at h; exact h
  | false => have : (!(checkProg isKey p == 0)) = false := h1
             simpa using this
theorem check_small {p : Prgm} (h : checkProg isKey p = 0) : p.1.length ≤ 60 ∧ partsOk p.1 = true := by
  refine ⟨checkItems_len (checkProg_items h), ?_⟩
  rw [isKey_fun] at h
  exact prog_ok h
theorem bne0 {x : Int} (h : x = 0) : (x != 0) = false := by rw [h]; rfl
theorem bneT {x : Int} (h : ¬ x = 0) : (x != 0) = true := by simpa using h
theorem r11 : R11 := by
  intro p f k at_ _
  rw [f11_run]
  simp only [eta_p]
  by_cases h0 : fromF p f = 0
  · obtain ⟨hl, _⟩ := check_small (fromF_zero h0)
    obtain ⟨q1, q2⟩ := at_ix p k (by omega)
    unfold lateF
    rw [bne0 h0, cond_false, cond_false, q1, q2, cond_true]
    by_cases hx : itemIx p.1 k < 0
    · rw [dT hx]; rfl
    · rw [dF hx, cond_false, cond_false]
      obtain ⟨g1, g2⟩ := ix_lt p.1 k hx
      have hm : t31_0 at_ = isMom at_ := rfl
      rw [hm]
      cases hq : !isMom at_ with
      | true => rfl
      | false =>
        have hlen := begGo_len p p.1 0 0
        rw [cond_false, cond_false, condT (dT (by omega)), condT (dT g1), condT (dT (by rw [hlen]; omega)), condT (dT (by rw [hlen]; omega))]
        rfl
  · unfold lateF
    rw [bneT h0]; rfl
theorem r20 : R20 := by
  intro p f k at_ h
  simp only [Bool.and_eq_true, decide_eq_true_eq] at h
  obtain ⟨h1, h2⟩ := h
  rw [f20_run]
  simp only [eta_p]
  obtain ⟨q1, q2⟩ := atQ_ix p.1 k h1
  obtain ⟨g1, g2⟩ := ix_lt p.1 k (by omega)
  have hlen := timGo_len p p.1 0 f
  rw [condT (dT h1), condT q1, q2, condT (dT g1), condT (dT (by rw [hlen]; omega)), condT (dT (by rw [hlen]; omega)), condT (dT (by rw [hlen]; omega)), condT (dT (by rw [hlen]; omega))]
  rfl
theorem in12 (f at_ : Int) (xs : List Item) (i : Nat) (bs : List Int) (out : List Bytes) (ps : List Bytes) (hp : ps.length ≤ 1000) (hi : i < 1000) : ∀ (m j : Nat) (es : List (Bytes × Bool)), j + m = ps.length →
    f12h2 f at_ xs xs.length i ps ps.length j bs out es = f12h0 f at_ xs xs.length ((i + 1 : Nat) : Int) bs out (sangP (ps.drop j) es) := by
  intro m
  induction m with
  | zero => intro j es hj; rw [f12h2_eq, condF (dlt_not (by omega)), dnil (xs := ps) (by omega), wsucc (by omega)]; rfl
  | succ m ih =>
    intro j es hj
    have hlt : j < ps.length := by omega
    rw [f12h2_eq]
    rw [condT (dT (by first | omega | (simp only [List.length_append, List.length_cons, List.length_nil, List.length_set, List.length_take, List.length_drop, List.length_map]; omega) | (simp; omega)))]
    rw [condT (dT (by first | omega | (simp only [List.length_append, List.length_cons, List.length_nil, List.length_set, List.length_take, List.length_drop, List.length_map]; omega) | (simp; omega)))]
    rw [condT (dT (by first | omega | (simp only [List.length_append, List.length_cons, List.length_nil, List.length_set, List.length_take, List.length_drop, List.length_map]; omega) | (simp; omega)))]
    rw [getN _ _ _ hlt, wsucc (by omega), ih (j + 1) _ (by omega), dcons hlt]
    rfl
theorem go12 (f at_ : Int) (xs : List Item) (hb : xs.length ≤ 1000) (hp : partsOk xs = true) (bs : List Int) (hl : bs.length = xs.length) : ∀ (m i : Nat) (out : List Bytes) (es : List (Bytes × Bool)), i + m = xs.length → out.length ≤ i →
    f12h0 f at_ xs xs.length i bs out es = some ⟨[.dat (.slice .str) (out ++ lvGo f at_ (xs.drop i) (bs.drop i) es), .dat tI 0], []⟩ := by
  intro m
  induction m with
  | zero =>
    intro i out es hi ho
    rw [f12h0_eq, condF (dlt_not (by omega)), dnil (xs := xs) (by omega), dnil (xs := bs) (by omega)]
    simp [lvGo]
  | succ m ih =>
    intro i out es hi ho
    have hlt : i < xs.length := by omega
    have hlt' : i < bs.length := by omega
    have hx := parts_mem hp (List.getElem_mem hlt)
    obtain ⟨q1, q2⟩ := new_any xs[i].2.2.2 es hx
    rw [f12h0_eq]
    rw [condT (dT (by first | omega | (simp only [List.length_append, List.length_cons, List.length_nil, List.length_set, List.length_take, List.length_drop, List.length_map]; omega) | (simp; omega)))]
    rw [condT (dT (by first | omega | (simp only [List.length_append, List.length_cons, List.length_nil, List.length_set, List.length_take, List.length_drop, List.length_map]; omega) | (simp; omega)))]
    rw [condT (dT (by first | omega | (simp only [List.length_append, List.length_cons, List.length_nil, List.length_set, List.length_take, List.length_drop, List.length_map]; omega) | (simp; omega)))]
    rw [getN _ _ _ hlt, condT q1, q2, getN _ _ _ hlt']
    have e1 : ∀ out, f12h2 f at_ xs xs.length i xs[i].2.2.2 xs[i].2.2.2.length 0 bs out es = f12h0 f at_ xs xs.length ((i + 1 : Nat) : Int) bs out (sangP xs[i].2.2.2 es) :=
      fun out => in12 f at_ xs i bs out xs[i].2.2.2 hx (by omega) xs[i].2.2.2.length 0 es (by omega)
    rw [e1, e1, dcons hlt, dcons hlt', lvGo]
    cases newP xs[i].2.2.2 es with
    | false =>
      rw [cond_false, ih (i + 1) _ _ (by omega) (by omega)]
      rfl
    | true =>
      rw [cond_true]
      rw [condT (dT (by first | omega | (simp only [List.length_append, List.length_cons, List.length_nil, List.length_set, List.length_take, List.length_drop, List.length_map]; omega) | (simp; omega)))]
      rw [condT (dT (by first | omega | (simp only [List.length_append, List.length_cons, List.length_nil, List.length_set, List.length_take, List.length_drop, List.length_map]; omega) | (simp; omega)))]
      rw [condT (dT (by first | omega | (simp only [List.length_append, List.length_cons, List.length_nil, List.length_set, List.length_take, List.length_drop, List.length_map]; omega) | (simp; omega)))]
      rw [Bool.true_and]
      cases decide (wrap .i64 (wrap .i64 (f + bs[i]) + xs[i].2.2.1) > at_) with
      | false => rw [cond_false, cond_false, ih (i + 1) _ _ (by omega) (by omega)]
      | true =>
        rw [cond_true, cond_true]
        rw [condT (dT (by first | omega | (simp only [List.length_append, List.length_cons, List.length_nil, List.length_set, List.length_take, List.length_drop, List.length_map]; omega) | (simp; omega)))]
        rw [ih (i + 1) _ _ (by omega) (by simp; omega), List.append_assoc]
        rfl
theorem r12 : R12 := by
  intro p f at_ _
  rw [f12_run]
  simp only [eta_p]
  by_cases h0 : fromF p f = 0
  · obtain ⟨hl, hp⟩ := check_small (fromF_zero h0)
    unfold leavesF
    rw [bne0 h0, cond_false, cond_false]
    have hm : t31_0 at_ = isMom at_ := rfl
    rw [hm]
    cases hq : !isMom at_ with
    | true => rfl
    | false =>
      rw [cond_false, cond_false, condT (dT (by omega))]
      exact go12 f at_ p.1 (by omega) hp _ (begGo_len p p.1 0 0) p.1.length 0 [] [] (by omega) (by simp)
  · unfold leavesF
    rw [bneT h0]; rfl
theorem go21 (p : Prgm) (hb : p.1.length ≤ 100) (hp : partsOk p.1 = true) (at_ : Int) (ts : List Timed) (hl : ts.length = p.1.length) : ∀ (m i : Nat) (out : List Bytes), i + m = ts.length → out.length ≤ i →
    f21h0 at_ ts.length i p.1 p.2.1 p.2.2.1 p.2.2.2.1 p.2.2.2.2 out ts = some ⟨[.dat (.slice .str) (out ++ lvRGo p at_ (ts.drop i) i)], []⟩ := by
  intro m
  induction m with
  | zero => intro i out hi ho; rw [f21h0_eq, condF (dlt_not (by omega)), dnil (xs := ts) (by omega)]; simp [lvRGo]
  | succ m ih =>
    intro i out hi ho
    have hlt : i < ts.length := by omega
    have hlt' : i < p.1.length := by omega
    have hx := parts_mem hp (List.getElem_mem hlt')
    have htk : List.drop (Int.toNat 0) (List.take (Int.toNat (i : Int)) p.1) = p.1.take i := by simp
    have hpt : partsOk (p.1.take i) = true := parts_of fun y hy => parts_mem hp (List.mem_of_mem_take hy)
    have htl : (p.1.take i).length ≤ 100 := by rw [List.length_take]; omega
    have hpl := partsR_len _ hpt
    obtain ⟨q1, q2⟩ := bef_any p.1[i].2.2.2 (partsR (p.1.take i)) hx (by omega)
    rw [f21h0_eq, htk]
    rw [condT (dT (by first | omega | (simp only [List.length_append, List.length_cons, List.length_nil, List.length_set, List.length_take, List.length_drop, List.length_map]; omega) | (simp; omega)))]
    rw [condT (dT (by first | omega | (simp only [List.length_append, List.length_cons, List.length_nil, List.length_set, List.length_take, List.length_drop, List.length_map]; omega) | (simp; omega)))]
    rw [condT (dT (by first | omega | (simp only [List.length_append, List.length_cons, List.length_nil, List.length_set, List.length_take, List.length_drop, List.length_map]; omega) | (simp; omega)))]
    rw [condT (dT (by first | omega | (simp only [List.length_append, List.length_cons, List.length_nil, List.length_set, List.length_take, List.length_drop, List.length_map]; omega) | (simp; omega)))]
    rw [condT (show decide ((0 : Int) ≤ 0) = true from rfl)]
    rw [condT (dT (by first | omega | (simp only [List.length_append, List.length_cons, List.length_nil, List.length_set, List.length_take, List.length_drop, List.length_map]; omega) | (simp; omega)))]
    rw [condT (dT (by first | omega | (simp only [List.length_append, List.length_cons, List.length_nil, List.length_set, List.length_take, List.length_drop, List.length_map]; omega) | (simp; omega)))]
    rw [condT (show (decide ((p.1.take i).length ≤ 100) && partsOk (p.1.take i)) = true by rw [dT htl, hpt]; rfl), getN _ _ _ hlt, getN _ _ _ hlt', q1, q2, dcons hlt, lvRGo]
    have hg : p.1.getD i (Tc.dflt tItem) = p.1[i] := by rw [List.getD_eq_getElem?_getD, List.getElem?_eq_getElem hlt']; rfl
    rw [hg, wsucc (by omega)]
    cases decide (ts[i].2.2 > at_) with
    | false => rw [cond_false, Bool.false_and, cond_false, ih (i + 1) _ (by omega) (by omega)]
    | true =>
      rw [cond_true, Bool.true_and]
      rw [condT (dT (by first | omega | (simp only [List.length_append, List.length_cons, List.length_nil, List.length_set, List.length_take, List.length_drop, List.length_map]; omega) | (simp; omega)))]
      rw [condT (dT (by first | omega | (simp only [List.length_append, List.length_cons, List.length_nil, List.length_set, List.length_take, List.length_drop, List.length_map]; omega) | (simp; omega)))]
      rw [cond_true]
      cases p.1[i].2.2.2.any fun k => !hasS (partsR (p.1.take i)) k with
      | false => rw [cond_false, cond_false, ih (i + 1) _ (by omega) (by omega)]
      | true =>
        rw [cond_true, cond_true]
        rw [condT (dT (by first | omega | (simp only [List.length_append, List.length_cons, List.length_nil, List.length_set, List.length_take, List.length_drop, List.length_map]; omega) | (simp; omega)))]
        rw [ih (i + 1) _ (by omega) (by simp; omega), List.append_assoc]
        rfl
theorem r21 : R21 := by
  intro p f at_ h
  simp only [Bool.and_eq_true, decide_eq_true_eq] at h
  rw [f21_run]
  simp only [eta_p]
  rw [condT (dT (by omega))]
  exact go21 p h.1 h.2 at_ _ (timGo_len p p.1 0 f) (timGo p 0 f p.1).length 0 [] (by omega) (by simp)
theorem r36 : R36 := by
  intro a b h
  rw [f36_run, condT (a := some _) h]
  unfold sameF
  cases a.2.1 == b.2.1 with
  | false => rfl
  | true => cases a.2.2.1 == b.2.2.1 <;> rfl

end Go.Ev.N

set_option linter.unusedVariables false
set_option linter.unusedSimpArgs false
namespace Go.Ev.N
open Go Go.Ev Go.Proofs
theorem end13 (a : Prgm) (hb : a.1.length ≤ 1000) (ys : List Item) (hy : ys.length ≤ 1000) (g o : List Bytes) : ∀ (m i : Nat) (out : List Bytes), i + m = ys.length → out.length ≤ i →
    f13h5 ys ys.length i a.1 a.2.1 a.2.2.1 a.2.2.2.1 a.2.2.2.2 g out o = some ⟨[.dat (.slice .str) g, .dat (.slice .str) (out ++ goneF (ys.drop i) a.1), .dat (.slice .str) o, .dat tI 0], []⟩ := by
  intro m
  induction m with
  | zero => intro i out hi ho; rw [f13h5_eq, condF (dlt_not (by omega)), dnil (xs := ys) (by omega)]; simp [goneF]
  | succ m ih =>
    intro i out hi ho
    have hlt : i < ys.length := by omega
    rw [f13h5_eq]
    rw [condT (dT (by first | omega | (simp only [List.length_append, List.length_cons, List.length_nil, List.length_set, List.length_take, List.length_drop, List.length_map]; omega) | (simp; omega)))]
    rw [condT (dT (by first | omega | (simp only [List.length_append, List.length_cons, List.length_nil, List.length_set, List.length_take, List.length_drop, List.length_map]; omega) | (simp; omega)))]
    rw [condT (dT (by first | omega | (simp only [List.length_append, List.length_cons, List.length_nil, List.length_set, List.length_take, List.length_drop, List.length_map]; omega) | (simp; omega)))]
    rw [getN _ _ _ hlt]
    simp only [eta_p]
    obtain ⟨q1, q2⟩ := at_ix a ys[i].1 hb
    rw [condT q1, q2, wsucc (by omega), dcons hlt]
    cases hx : decide (itemIx a.1 ys[i].1 < 0) with
    | true =>
      rw [cond_true]
      rw [condT (dT (by first | omega | (simp only [List.length_append, List.length_cons, List.length_nil, List.length_set, List.length_take, List.length_drop, List.length_map]; omega) | (simp; omega)))]
      rw [ih (i + 1) _ (by omega) (by simp; omega), List.append_assoc]
      simp only [goneF, List.filter_cons, hx, if_true, List.map_cons, List.singleton_append]
    | false =>
      rw [cond_false, ih (i + 1) _ (by omega) (by omega)]
      simp only [goneF, List.filter_cons, hx, Bool.false_eq_true, if_false]
theorem go13 (a b : Prgm) (ha : a.1.length ≤ 1000) (hb : b.1.length ≤ 1000) (hp : partsOk a.1 = true) : ∀ (m i : Nat) (g o : List Bytes), i + m = a.1.length → g.length ≤ i → o.length ≤ i →
    f13h2 a.1 a.1.length i a.1 a.2.1 a.2.2.1 a.2.2.2.1 a.2.2.2.2 b.1 b.2.1 b.2.2.1 b.2.2.2.1 b.2.2.2.2 g o =
      some ⟨[.dat (.slice .str) (g ++ goneF (a.1.drop i) b.1), .dat (.slice .str) (goneF b.1 a.1), .dat (.slice .str) (o ++ otherF (a.1.drop i) b.1), .dat tI 0], []⟩ := by
  intro m
  induction m with
  | zero =>
    intro i g o hi hg ho
    rw [f13h2_eq, condF (dlt_not (by omega)), dnil (xs := a.1) (by omega)]
    have := end13 a ha b.1 hb g o b.1.length 0 [] (by omega) (by simp)
    simp only [goneF, otherF, List.filter_nil, List.map_nil, List.append_nil]
    exact this
  | succ m ih =>
    intro i g o hi hg ho
    have hlt : i < a.1.length := by omega
    have hx := parts_mem hp (List.getElem_mem hlt)
    rw [f13h2_eq]
    rw [condT (dT (by first | omega | (simp only [List.length_append, List.length_cons, List.length_nil, List.length_set, List.length_take, List.length_drop, List.length_map]; omega) | (simp; omega)))]
    rw [condT (dT (by first | omega | (simp only [List.length_append, List.length_cons, List.length_nil, List.length_set, List.length_take, List.length_drop, List.length_map]; omega) | (simp; omega)))]
    rw [condT (dT (by first | omega | (simp only [List.length_append, List.length_cons, List.length_nil, List.length_set, List.length_take, List.length_drop, List.length_map]; omega) | (simp; omega)))]
    rw [getN _ _ _ hlt]
    simp only [eta_p]
    obtain ⟨q1, q2⟩ := at_ix b a.1[i].1 hb
    rw [condT q1, q2, wsucc (by omega), dcons hlt]
    by_cases hx2 : itemIx b.1 a.1[i].1 < 0
    · rw [dT hx2, cond_true]
      rw [condT (dT (by first | omega | (simp only [List.length_append, List.length_cons, List.length_nil, List.length_set, List.length_take, List.length_drop, List.length_map]; omega) | (simp; omega)))]
      rw [ih (i + 1) _ _ (by omega) (by simp; omega) (by omega), List.append_assoc]
      simp only [goneF, otherF, List.filter_cons, dT hx2, if_true, Bool.not_true, Bool.false_and, Bool.false_eq_true, if_false, List.map_cons, List.singleton_append]
    · obtain ⟨g1, g2⟩ := ix_lt b.1 a.1[i].1 hx2
      rw [dF hx2, cond_false, condT (dT g1), condT (dT (by omega)), condT (dT hx)]
      have e : (List.getD b.1 (itemIx b.1 a.1[i].1).toNat (Tc.dflt tItem)) = itAt b.1 a.1[i] := rfl
      rw [e]
      have e2 : (a.1[i].1, (a.1[i].2.1, (a.1[i].2.2.1, a.1[i].2.2.2))) = a.1[i] := rfl
      rw [e2]
      cases hs : !sameF a.1[i] (itAt b.1 a.1[i]) with
      | true =>
        rw [cond_true]
        rw [condT (dT (by first | omega | (simp only [List.length_append, List.length_cons, List.length_nil, List.length_set, List.length_take, List.length_drop, List.length_map]; omega) | (simp; omega)))]
        rw [ih (i + 1) _ _ (by omega) (by omega) (by simp; omega), List.append_assoc]
        simp only [goneF, otherF, List.filter_cons, dF hx2, hs, if_true, Bool.not_false, Bool.true_and, Bool.false_eq_true, if_false, List.map_cons, List.singleton_append]
      | false =>
        rw [cond_false, ih (i + 1) _ _ (by omega) (by omega) (by omega)]
        simp only [goneF, otherF, List.filter_cons, dF hx2, hs, Bool.not_false, Bool.true_and, Bool.false_eq_true, if_false]
theorem r13 : R13 := by
  intro a b _
  rw [f13_run, f13h0_eq]
  simp only [eta_p]
  rw [condT (dT (by simp)), condT (dT (by decide)), condT (dT (by simp)), condT (dT (by simp))]
  have d0 : List.getD [a, b] (Int.toNat (0 : Int)) (Tc.dflt tPrgm) = a := rfl
  have d1 : List.getD [a, b] (Int.toNat (1 : Int)) (Tc.dflt tPrgm) = b := rfl
  rw [d0]
  by_cases ha : checkProg isKey a = 0
  · obtain ⟨la, pa⟩ := check_small ha
    unfold difF
    rw [bne0 ha, cond_false, cond_false, show wrap .i64 ((0 : Int) + 1) = 1 from by decide, f13h0_eq]
    simp only [eta_p]
    rw [condT (dT (by simp)), condT (dT (by decide)), condT (dT (by simp)), condT (dT (by simp)), d1]
    by_cases hb : checkProg isKey b = 0
    · obtain ⟨lb, pb⟩ := check_small hb
      rw [bne0 hb, cond_false, cond_false, show wrap .i64 ((1 : Int) + 1) = 2 from by decide, f13h0_eq]
      rw [condF (dF (by simp))]
      have := go13 a b (by omega) (by omega) pa a.1.length 0 [] [] (by omega) (by simp) (by simp)
      exact this
    · rw [bneT hb]; rfl
  · unfold difF
    rw [bneT ha]; rfl
theorem end22 (a : Prgm) (hb : a.1.length ≤ 1000) (ys : List Item) (hy : ys.length ≤ 1000) (g o : List Bytes) : ∀ (m i : Nat) (out : List Bytes), i + m = ys.length → out.length ≤ i →
    f22h3 ys ys.length i a.1 a.2.1 a.2.2.1 a.2.2.2.1 a.2.2.2.2 g out o = some ⟨[.dat (.slice .str) g, .dat (.slice .str) (out ++ goneF (ys.drop i) a.1), .dat (.slice .str) o], []⟩ := by
  intro m
  induction m with
  | zero => intro i out hi ho; rw [f22h3_eq, condF (dlt_not (by omega)), dnil (xs := ys) (by omega)]; simp [goneF]
  | succ m ih =>
    intro i out hi ho
    have hlt : i < ys.length := by omega
    rw [f22h3_eq]
    rw [condT (dT (by first | omega | (simp only [List.length_append, List.length_cons, List.length_nil, List.length_set, List.length_take, List.length_drop, List.length_map]; omega) | (simp; omega)))]
    rw [condT (dT (by first | omega | (simp only [List.length_append, List.length_cons, List.length_nil, List.length_set, List.length_take, List.length_drop, List.length_map]; omega) | (simp; omega)))]
    rw [condT (dT (by first | omega | (simp only [List.length_append, List.length_cons, List.length_nil, List.length_set, List.length_take, List.length_drop, List.length_map]; omega) | (simp; omega)))]
    rw [getN _ _ _ hlt]
    obtain ⟨q1, q2⟩ := atQ_ix a.1 ys[i].1 hb
    rw [condT q1, q2, wsucc (by omega), dcons hlt]
    cases hx : decide (itemIx a.1 ys[i].1 < 0) with
    | true =>
      rw [cond_true]
      rw [condT (dT (by first | omega | (simp only [List.length_append, List.length_cons, List.length_nil, List.length_set, List.length_take, List.length_drop, List.length_map]; omega) | (simp; omega)))]
      rw [ih (i + 1) _ (by omega) (by simp; omega), List.append_assoc]
      simp only [goneF, List.filter_cons, hx, if_true, List.map_cons, List.singleton_append]
    | false =>
      rw [cond_false, ih (i + 1) _ (by omega) (by omega)]
      simp only [goneF, List.filter_cons, hx, Bool.false_eq_true, if_false]
theorem go22 (a b : Prgm) (ha : a.1.length ≤ 1000) (hb : b.1.length ≤ 1000) (hp : partsOk a.1 = true) : ∀ (m i : Nat) (g o : List Bytes), i + m = a.1.length → g.length ≤ i → o.length ≤ i →
    f22h0 a.1 a.1.length i a.1 a.2.1 a.2.2.1 a.2.2.2.1 a.2.2.2.2 b.1 b.2.1 b.2.2.1 b.2.2.2.1 b.2.2.2.2 g o =
      some ⟨[.dat (.slice .str) (g ++ goneF (a.1.drop i) b.1), .dat (.slice .str) (goneF b.1 a.1), .dat (.slice .str) (o ++ otherR (a.1.drop i) b.1)], []⟩ := by
  intro m
  induction m with
  | zero =>
    intro i g o hi hg ho
    rw [f22h0_eq, condF (dlt_not (by omega)), dnil (xs := a.1) (by omega)]
    have := end22 a ha b.1 hb g o b.1.length 0 [] (by omega) (by simp)
    simp only [goneF, otherR, List.filter_nil, List.map_nil, List.append_nil]
    exact this
  | succ m ih =>
    intro i g o hi hg ho
    have hlt : i < a.1.length := by omega
    have hx := parts_mem hp (List.getElem_mem hlt)
    rw [f22h0_eq]
    rw [condT (dT (by first | omega | (simp only [List.length_append, List.length_cons, List.length_nil, List.length_set, List.length_take, List.length_drop, List.length_map]; omega) | (simp; omega)))]
    rw [condT (dT (by first | omega | (simp only [List.length_append, List.length_cons, List.length_nil, List.length_set, List.length_take, List.length_drop, List.length_map]; omega) | (simp; omega)))]
    rw [condT (dT (by first | omega | (simp only [List.length_append, List.length_cons, List.length_nil, List.length_set, List.length_take, List.length_drop, List.length_map]; omega) | (simp; omega)))]
    rw [getN _ _ _ hlt]
    obtain ⟨q1, q2⟩ := atQ_ix b.1 a.1[i].1 hb
    rw [condT q1, q2, wsucc (by omega), dcons hlt]
    by_cases hx2 : itemIx b.1 a.1[i].1 < 0
    · rw [dT hx2, cond_true]
      rw [condT (dT (by first | omega | (simp only [List.length_append, List.length_cons, List.length_nil, List.length_set, List.length_take, List.length_drop, List.length_map]; omega) | (simp; omega)))]
      rw [ih (i + 1) _ _ (by omega) (by simp; omega) (by omega), List.append_assoc]
      simp only [goneF, otherR, List.filter_cons, dT hx2, if_true, Bool.not_true, Bool.false_and, Bool.false_eq_true, if_false, List.map_cons, List.singleton_append]
    · obtain ⟨g1, g2⟩ := ix_lt b.1 a.1[i].1 hx2
      rw [dF hx2, cond_false, condT (dT g1), condT (dT (by omega)), condT (dT hx)]
      have e : (List.getD b.1 (itemIx b.1 a.1[i].1).toNat (Tc.dflt tItem)) = itAt b.1 a.1[i] := rfl
      rw [e]
      have e2 : (a.1[i].1, (a.1[i].2.1, (a.1[i].2.2.1, a.1[i].2.2.2))) = a.1[i] := rfl
      rw [e2]
      cases hs : !(a.1[i] == itAt b.1 a.1[i]) with
      | true =>
        rw [cond_true]
        rw [condT (dT (by first | omega | (simp only [List.length_append, List.length_cons, List.length_nil, List.length_set, List.length_take, List.length_drop, List.length_map]; omega) | (simp; omega)))]
        rw [ih (i + 1) _ _ (by omega) (by omega) (by simp; omega), List.append_assoc]
        simp only [goneF, otherR, List.filter_cons, dF hx2, hs, if_true, Bool.not_false, Bool.true_and, Bool.false_eq_true, if_false, List.map_cons, List.singleton_append]
      | false =>
        rw [cond_false, ih (i + 1) _ _ (by omega) (by omega) (by omega)]
        simp only [goneF, otherR, List.filter_cons, dF hx2, hs, Bool.not_false, Bool.true_and, Bool.false_eq_true, if_false]
theorem r22 : R22 := by
  intro a b h
  simp only [Bool.and_eq_true, decide_eq_true_eq] at h
  rw [f22_run]
  exact go22 a b (by omega) (by omega) h.1.2 a.1.length 0 [] [] (by omega) (by simp) (by simp)

end Go.Ev.N

set_option linter.unusedVariables false
set_option linter.unusedSimpArgs false
namespace Go.Ev.N
open Go Go.Ev Go.Proofs
/-! ### pure laws -/
theorem beqS (x y : Bytes) : Tc.beq .str x y = (x == y) := rfl
theorem find_put (s k : Bytes) (v : Bool) : ∀ (es : List (Bytes × Bool)), mapFind .str .bool s (mapPut .str .bool k v es) = if k = s then some v else mapFind .str .bool s es
  | [] => by
    simp only [mapPut, mapFind, beqS]
    by_cases h : k = s
    · subst h; simp
    · rw [if_neg h, show (k == s) = false from by simpa using h]; rfl
  | (k', v') :: es => by
    have ih := find_put s k v es
    simp only [mapPut, mapFind, beqS]
    by_cases h1 : k' = k
    · subst h1
      rw [show (k' == k') = true from by simp, cond_true]
      simp only [mapFind, beqS]
      by_cases h : k' = s
      · subst h; simp
      · rw [if_neg h, show (k' == s) = false from by simpa using h]; rfl
    · rw [show (k' == k) = false from by simpa using h1, cond_false]
      simp only [mapFind, beqS]
      by_cases h : k' = s
      · subst h
        rw [if_neg (fun e => h1 e.symm), show (k' == k') = true from by simp]; rfl
      · rw [show (k' == s) = false from by simpa using h, cond_false, cond_false, ih]
theorem find_sang (s : Bytes) : ∀ (ps : List Bytes) (es : List (Bytes × Bool)), mapFind .str .bool s (sangP ps es) = if s ∈ ps then some true else mapFind .str .bool s es
  | [], es => by simp [sangP]
  | k :: ps, es => by
    have ih := find_sang s ps (mapPut .str .bool k true es)
    have e : sangP (k :: ps) es = sangP ps (mapPut .str .bool k true es) := rfl
    rw [e, ih, find_put]
    by_cases h1 : s ∈ ps
    · rw [if_pos h1, if_pos (List.mem_cons_of_mem _ h1)]
    · rw [if_neg h1]
      by_cases h2 : k = s
      · subst h2; rw [if_pos rfl, if_pos (List.mem_cons_self ..)]
      · rw [if_neg h2, if_neg (fun h => by rcases List.mem_cons.1 h with h | h; exact h2 h.symm; exact h1 h)]
theorem idxS_has (x : Bytes) : ∀ (l : List Bytes) (i : Nat), decide (idxS x l i ≥ 0) = decide (x ∈ l)
  | [], i => by simp [idxS]
  | y :: l, i => by
    have ih := idxS_has x l (i + 1)
    by_cases h : x = y
    · subst h; simp [idxS]
    · have e : idxS x (y :: l) i = idxS x l (i + 1) := by rw [idxS, show (x == y) = false from by simpa using h]; rfl
      have e2 : decide (idxS x (y :: l) i ≥ 0) = decide (idxS x l (i + 1) ≥ 0) := by rw [e]
      exact e2.trans (ih.trans (by simp [h]))
theorem hasS_mem (l : List Bytes) (x : Bytes) : hasS l x = decide (x ∈ l) := idxS_has x l 0
def Sung (pre : List Item) (es : List (Bytes × Bool)) : Prop := ∀ s, (mapFind .str .bool s es).getD (Tc.dflt .bool) = decide (∃ y ∈ pre, s ∈ y.2.2.2)
theorem sung_snoc {pre : List Item} {es : List (Bytes × Bool)} (h : Sung pre es) (x : Item) : Sung (pre ++ [x]) (sangP x.2.2.2 es) := by
  intro s
  rw [find_sang]
  by_cases hs : s ∈ x.2.2.2
  · rw [if_pos hs, dT ⟨x, by simp, hs⟩]; rfl
  · rw [if_neg hs, h s]
    congr 1
    apply propext
    constructor
    · rintro ⟨y, hy, h1⟩; exact ⟨y, List.mem_append_left _ hy, h1⟩
    · rintro ⟨y, hy, h1⟩
      rcases List.mem_append.1 hy with hy | hy
      · exact ⟨y, hy, h1⟩
      · rw [List.mem_singleton.1 hy] at h1; exact absurd h1 hs
theorem new_eq {pre : List Item} {es : List (Bytes × Bool)} (h : Sung pre es) (ps : List Bytes) : newP ps es = ps.any fun k => !hasS (partsR pre) k := by
  unfold newP
  congr 1
  funext s
  rw [h s, hasS_mem]
  congr 1
  exact decide_eq_decide.2 (partsR_mem pre s).symm
theorem lv_eq (p : Prgm) (f at_ : Int) : ∀ (l pre : List Item) (bs : List Int) (es : List (Bytes × Bool)), p.1 = pre ++ l → Sung pre es → lvRGo p at_ (ttGo f bs l) pre.length = lvGo f at_ l bs es
  | [], pre, bs, es, _, _ => by cases bs <;> rfl
  | x :: l, pre, [], es, _, _ => rfl
  | x :: l, pre, b :: bs, es, hp, hs => by
    have ih := lv_eq p f at_ l (pre ++ [x]) bs (sangP x.2.2.2 es) (by rw [hp]; simp) (sung_snoc hs x)
    rw [List.length_append, List.length_singleton] at ih
    simp only [ttGo, lvRGo, lvGo]
    have h1 : p.1.getD pre.length (Tc.dflt tItem) = x := by rw [hp, List.getD_eq_getElem?_getD, List.getElem?_append_right (Nat.le_refl _)]; simp
    have h2 : p.1.take pre.length = pre := by rw [hp, List.take_left']; rfl
    rw [h1, h2, ← new_eq hs, ih, Bool.and_comm]
theorem ttGo_get (f : Int) (d : Timed) : ∀ (bs : List Int) (l : List Item) (i : Nat), i < bs.length → i < l.length → ((ttGo f bs l).getD i d).2.1 = wrap .i64 (f + bs.getD i 0)
  | [], _, i, h, _ => by simp at h
  | _ :: _, [], i, _, h => by simp at h
  | b :: bs, x :: l, 0, _, _ => rfl
  | b :: bs, x :: l, i + 1, h1, h2 => by
    simp only [ttGo, List.getD_cons_succ]
    exact ttGo_get f d bs l i (by simpa using h1) (by simpa using h2)
theorem idx_key (k : Bytes) (d : Item) : ∀ (l : List Item) (s : Nat), ¬ idxBy (fun (o : Item) => o.1 == k) l s < 0 → ∃ n, idxBy (fun (o : Item) => o.1 == k) l s = ((s + n : Nat) : Int) ∧ (l.getD n d).1 = k
  | [], s, h => absurd (show (-1 : Int) < 0 by decide) h
  | x :: l, s, h => by
    simp only [idxBy] at h ⊢
    cases hx : x.1 == k with
    | true => exact ⟨0, by simp, by simpa using hx⟩
    | false =>
      rw [hx, cond_false] at h
      obtain ⟨n, h1, h2⟩ := idx_key k d l (s + 1) h
      exact ⟨n + 1, by rw [cond_false, h1]; congr 1; omega, by simpa using h2⟩
theorem itAt_key (ys : List Item) (x : Item) (h : ¬ itemIx ys x.1 < 0) : (itAt ys x).1 = x.1 := by
  obtain ⟨n, h1, h2⟩ := idx_key x.1 (Tc.dflt tItem) ys 0 h
  unfold itAt
  have : itemIx ys x.1 = ((0 + n : Nat) : Int) := h1
  rw [this, Int.toNat_natCast, Nat.zero_add]
  exact h2
theorem other_eq (xs ys : List Item) : otherF xs ys = otherR xs ys := by
  unfold otherF otherR
  congr 2
  funext x
  by_cases h : itemIx ys x.1 < 0
  · rw [dT h]; rfl
  · rw [dF h]
    have hk := itAt_key ys x h
    have e : (x == itAt ys x) = (x.1 == (itAt ys x).1 && sameF x (itAt ys x)) := rfl
    rw [e, hk, show (x.1 == x.1) = true from by simp, Bool.true_and]
theorem first3 (a b c : Int) : firstE [a, b, c] = cond (a != 0) a (cond (b != 0) b (cond (c != 0) c 0)) := rfl
theorem first2 (a b : Int) : firstE [a, b] = cond (a != 0) a (cond (b != 0) b 0) := rfl
theorem mom_eq (a : Int) : t17_0 a = cond (!isMom a) 1 0 := by
  unfold isMom
  rw [outside_in, Bool.not_not]
  rfl
def oneE (p : Prgm) (f : Int) : Int := cond (checkProg keyR p == 0) (beginF p f) (checkProg keyR p)
theorem one_eq (p : Prgm) (f : Int) : oneE p f = fromF p f := by
  unfold oneE
  by_cases h : checkProg keyR p = 0
  · rw [fromF_eq p f h, h]; rfl
  · rw [show (checkProg keyR p == 0) = false from by simpa using h, cond_false]
    unfold fromF
    rw [isKey_fun, bneT h]; rfl
theorem from_wrap {p : Prgm} {f : Int} (h : fromF p f = 0) : wrap .i64 (f + 0) = f := by
  have hc := fromF_zero h
  unfold fromF at h
  rw [bne0 hc, cond_false] at h
  cases hm : isMom f with
  | false => rw [hm] at h; cases h
  | true =>
    unfold isMom outside at hm
    simp at hm
    rw [Int.add_zero]; exact wrap_in (by omega) (by omega)
theorem tim_tt {p : Prgm} {f : Int} (h : fromF p f = 0) : timGo p 0 f p.1 = ttGo f (begGo p 0 0 p.1).1 p.1 := (tt_tim p f p.1 0 0 f (from_wrap h).symm).symm
theorem late_facts (p : Prgm) (f : Int) (k : Bytes) (a : Int) :
    (lateF p f k a).2 = firstE [fromF p f, t18_0 (decide (itemIx p.1 k < 0)) 8, t17_0 a] ∧
    (firstE [fromF p f, t18_0 (decide (itemIx p.1 k < 0)) 8, t17_0 a] = 0 → ¬ itemIx p.1 k < 0 ∧ (lateF p f k a).1 = lateR p f k a) ∧
    (firstE [fromF p f, t18_0 (decide (itemIx p.1 k < 0)) 8, t17_0 a] ≠ 0 → (lateF p f k a).1 = 0) := by
  have hw : t18_0 (decide (itemIx p.1 k < 0)) 8 = cond (decide (itemIx p.1 k < 0)) 8 0 := rfl
  rw [hw, mom_eq, first3]
  unfold lateF
  by_cases h0 : fromF p f = 0
  · rw [bne0 h0, cond_false, cond_false]
    by_cases hx : itemIx p.1 k < 0
    · rw [dT hx]; exact ⟨rfl, fun h => (by cases h), fun _ => rfl⟩
    · rw [dF hx]
      cases hm : !isMom a with
      | true => exact ⟨rfl, fun h => (by cases h), fun _ => rfl⟩
      | false =>
        refine ⟨rfl, fun _ => ⟨hx, ?_⟩, fun h => absurd rfl h⟩
        obtain ⟨g1, g2⟩ := ix_lt p.1 k hx
        unfold lateR
        rw [tim_tt h0, ttGo_get f _ _ p.1 _ (by rw [begGo_len]; omega) (by omega)]
        show wrap .i64 (wrap .i64 (a - f) - (begGo p 0 0 p.1).1.getD (itemIx p.1 k).toNat 0) = _
        generalize (begGo p 0 0 p.1).1.getD (itemIx p.1 k).toNat 0 = b
        simp only [wrap, IntKind.wrap_i64]
        omega
  · rw [bneT h0]
    exact ⟨rfl, fun h => absurd h h0, fun _ => rfl⟩
theorem leaves_facts (p : Prgm) (f a : Int) :
    (leavesF p f a).2 = firstE [fromF p f, t17_0 a] ∧
    (firstE [fromF p f, t17_0 a] = 0 → (leavesF p f a).1 = lvR p f a ∧ checkProg isKey p = 0) ∧
    (firstE [fromF p f, t17_0 a] ≠ 0 → (leavesF p f a).1 = []) := by
  rw [mom_eq, first2]
  unfold leavesF
  by_cases h0 : fromF p f = 0
  · rw [bne0 h0, cond_false, cond_false]
    cases hm : !isMom a with
    | true => exact ⟨rfl, fun h => (by cases h), fun _ => rfl⟩
    | false =>
      refine ⟨rfl, fun _ => ⟨?_, fromF_zero h0⟩, fun h => absurd rfl h⟩
      unfold lvR
      rw [tim_tt h0]
      exact (lv_eq p f a p.1 [] _ [] rfl (fun s => by simp [mapFind, Tc.dflt])).symm
  · rw [bneT h0]
    exact ⟨rfl, fun h => absurd h h0, fun _ => rfl⟩
theorem dif_facts (p q : Prgm) :
    (difF p q).2.2.2 = firstE [checkProg keyR p, checkProg keyR q] ∧
    (firstE [checkProg keyR p, checkProg keyR q] = 0 → (difF p q).1 = goneF p.1 q.1 ∧ (difF p q).2.1 = goneF q.1 p.1 ∧ (difF p q).2.2.1 = otherR p.1 q.1 ∧ checkProg isKey p = 0 ∧ checkProg isKey q = 0) ∧
    (firstE [checkProg keyR p, checkProg keyR q] ≠ 0 → (difF p q).1 = [] ∧ (difF p q).2.1 = [] ∧ (difF p q).2.2.1 = []) := by
  rw [first2, ← isKey_fun]
  unfold difF
  by_cases h0 : checkProg isKey p = 0
  · rw [bne0 h0, cond_false, cond_false]
    by_cases h1 : checkProg isKey q = 0
    · rw [bne0 h1, cond_false, cond_false]
      exact ⟨rfl, fun _ => ⟨rfl, rfl, other_eq p.1 q.1, h0, h1⟩, fun h => absurd rfl h⟩
    · rw [bneT h1]
      exact ⟨rfl, fun h => absurd h h1, fun _ => ⟨rfl, rfl, rfl⟩⟩
  · rw [bneT h0]
    exact ⟨rfl, fun h => absurd h h0, fun _ => ⟨rfl, rfl, rfl⟩⟩

end Go.Ev.N

set_option linter.unusedVariables false
set_option linter.unusedSimpArgs false
namespace Go.Ev.N
open Go Go.Ev Go.Proofs
theorem beqT {α : Type} [BEq α] [LawfulBEq α] {x y : α} (h : x = y) : (x == y) = true := by rw [h]; simp
theorem gone_len (xs ys : List Item) : (goneF xs ys).length ≤ xs.length := by
  unfold goneF; rw [List.length_map]; exact List.length_filter_le ..
theorem otherR_len (xs ys : List Item) : (otherR xs ys).length ≤ xs.length := by
  unfold otherR; rw [List.length_map]; exact List.length_filter_le ..
theorem lvRGo_len (p : Prgm) (a : Int) : ∀ (l : List Timed) (i : Nat), (lvRGo p a l i).length ≤ l.length
  | [], _ => Nat.le_refl _
  | t :: l, i => by
    have ih := lvRGo_len p a l (i + 1)
    rw [lvRGo]
    cases (decide (t.2.2 > a) && (p.1.getD i (Tc.dflt tItem)).2.2.2.any fun k => !hasS (partsR (p.1.take i)) k) <;> simp only [cond_true, cond_false, List.length_cons] <;> omega
theorem tD_ok (p q : Prgm) (hp : p.1.length ≤ 5) (hq : q.1.length ≤ 5) : (firstE [checkProg keyR p, checkProg keyR q] = 0 → tD p q (firstE [checkProg keyR p, checkProg keyR q]) (goneF p.1 q.1) (goneF q.1 p.1) (otherR p.1 q.1) = okT ∧ partsOk p.1 = true) ∧
    (firstE [checkProg keyR p, checkProg keyR q] ≠ 0 → tD p q (firstE [checkProg keyR p, checkProg keyR q]) [] [] [] = okT) := by
  obtain ⟨h1, h2, h3⟩ := dif_facts p q
  refine ⟨fun h => ?_, fun h => ?_⟩
  · obtain ⟨g1, g2, g3, g4, _⟩ := h2 h
    have l1 := gone_len p.1 q.1
    have l2 := gone_len q.1 p.1
    have l3 := otherR_len p.1 q.1
    refine ⟨?_, (check_small g4).2⟩
    unfold tD
    rw [condT (beqT h1), g1, g2, g3, condT (dT (by omega)), condT (beqT rfl), condT (dT (by omega)), condT (beqT rfl), condT (dT (by omega)), condT (beqT rfl)]
  · obtain ⟨g1, g2, g3⟩ := h3 h
    unfold tD
    rw [condT (beqT h1), g1, g2, g3]; rfl
theorem t3_ok (p q : Prgm) (f : Int) (key : Bytes) (a e1 n e2 : Int) (w : List Bytes) (hp : p.1.length ≤ 5) (hq : q.1.length ≤ 5) (h1 : (lateF p f key a).2 = e1) (h2 : (lateF p f key a).1 = n) (h3 : (leavesF p f a).2 = e2) (h4 : (leavesF p f a).1 = w) (h5 : w.length ≤ 1000) :
    t3 p q f key a e1 n e2 w = okT := by
  obtain ⟨d1, d2⟩ := tD_ok p q hp hq
  have hA : ∀ k, tA p f key a e1 n (tL p f a e2 w k) = k := by
    intro k
    unfold tA tL
    rw [condT (beqT h1), condT (beqT h2), condT (beqT h3), h4, condT (dT h5), condT (beqT rfl)]
  unfold t3
  rw [hA, hA]
  by_cases h : firstE [checkProg keyR p, checkProg keyR q] = 0
  · obtain ⟨g1, g2⟩ := d1 h
    rw [condT (beqT h), condT (by rw [dT (by omega), g2, dT (by omega)]; rfl)]
    exact g1
  · rw [show (firstE [checkProg keyR p, checkProg keyR q] == 0) = false from by simpa using h]
    exact d2 h
theorem t1_ok (p q : Prgm) (f : Int) (key : Bytes) (a : Int) (hp : p.1.length ≤ 5) (hq : q.1.length ≤ 5) : t1 p q f key a (fromF p f) = okT := by
  obtain ⟨q1, q2⟩ := atQ_ix p.1 key (by omega)
  unfold t1
  rw [q2, condT (dT (by simp)), condT q1, condT (dT (by simp)), condT (dT (by simp))]
  obtain ⟨a1, a2, a3⟩ := late_facts p f key a
  obtain ⟨b1, b2, b3⟩ := leaves_facts p f a
  generalize he1 : firstE [fromF p f, t18_0 (decide (itemIx p.1 key < 0)) 8, t17_0 a] = e1 at a1 a2 a3 ⊢
  generalize he2 : firstE [fromF p f, t17_0 a] = e2 at b1 b2 b3 ⊢
  have main : ∀ n, (lateF p f key a).1 = n → t2 p q f key a e1 n e2 = okT := by
    intro n hn
    unfold t2
    by_cases h : e2 = 0
    · obtain ⟨g1, g2⟩ := b2 h
      rw [condT (beqT h), condT (by rw [dT (by omega), (check_small g2).2]; rfl)]
      refine t3_ok p q f key a e1 n e2 _ hp hq a1 hn b1 g1 ?_
      have := lvRGo_len p a (timGo p 0 f p.1) 0
      rw [timGo_len] at this
      show (lvRGo p a (timGo p 0 f p.1) 0).length ≤ 1000
      omega
    · rw [show (e2 == 0) = false from by simpa using h]
      exact t3_ok p q f key a e1 n e2 [] hp hq a1 hn b1 (b3 h) (by simp)
  by_cases h : e1 = 0
  · obtain ⟨g1, g2⟩ := a2 h
    rw [condT (beqT h), condT (by rw [dT (by omega), dT (by omega)]; rfl)]
    exact main _ g2
  · rw [show (e1 == 0) = false from by simpa using h]
    exact main _ (a3 h)
theorem tAll_ok (p q : Prgm) (f : Int) (key : Bytes) (a : Int) (hp : p.1.length ≤ 5) (hq : q.1.length ≤ 5) : tAll p q f key a = some ⟨[.dat .bool true], []⟩ := by
  have h1 := t1_ok p q f key a hp hq
  have h2 := one_eq p f
  unfold oneE at h2
  unfold tAll
  cases hc : checkProg keyR p == 0 with
  | true => rw [hc, cond_true] at h2; rw [cond_true, condT (dT (by omega)), h2]; exact h1
  | false => rw [hc, cond_false] at h2; rw [cond_false, h2]; exact h1
theorem r3 : R3 := by
  intro L _
  have hA : (atOk 2000 (0 : Int) && decide ((4 : Int) ≤ 5) && decide ((5 : Int) ≤ 5)) = true := rfl
  obtain ⟨⟨s1, s2, s3⟩, _⟩ := aProg_spec L 0 5 hA
  rw [f3_run]
  rw [condT hA]
  generalize aProg L 0 5 = A at s1 s2 s3 ⊢
  obtain ⟨a, p⟩ := A
  simp only at s1 s2 s3 ⊢
  have hB : (atOk 2000 a && decide ((4 : Int) ≤ 4) && decide ((4 : Int) ≤ 5)) = true := by rw [atOk_t s1 (by omega)]; rfl
  obtain ⟨⟨u1, u2, u3⟩, _⟩ := aProg_spec L a 4 hB
  rw [condT hB]
  generalize aProg L a 4 = B at u1 u2 u3 ⊢
  obtain ⟨b, q⟩ := B
  simp only at u1 u2 u3 ⊢
  have h7 : t5_ok L b = true := by
    unfold t5_ok t5
    rw [atOk_t (k := 1) (a := b) (by omega) (by omega)]; rfl
  have h8 : t5_1 L b = b + 1 := by
    unfold t5_1 t5
    rw [atOk_t (k := 1) (a := b) (by omega) (by omega)]
    exact nextAt_s (a := b) (by omega) (by omega)
  generalize t5_0 L b = fr
  rw [condT h7, h8]
  unfold lawB
  have n1 := nextAt_s (a := b + 1) (by omega) (by omega)
  have n2 := nextAt_s (a := b + 1 + 1) (by omega) (by omega)
  have n3 := nextAt_s (a := b + 1 + 1 + 1) (by omega) (by omega)
  rw [n1, n2]
  generalize some_ L (b + 1) [[97], [98], [99], [122, 122]] = k
  generalize pick L (b + 1 + 1) [(0 : Int), (100 : Int), (250 : Int), (500 : Int), (1500 : Int), (-1 : Int)] = m
  refine (condT (atOk_and (by omega) (by omega) rfl rfl)).trans ?_
  refine (condT (atOk_and (by omega) (by omega) rfl rfl)).trans ?_
  unfold lawQ
  refine (condT (atOk_t (by omega) (by omega))).trans ?_
  cases next L (b + 1 + 1 + 1) 2 == 0 with
  | false => rw [cond_false]; exact tAll_ok p q fr k m s3 u3
  | true =>
    rw [cond_true]
    rw [n3]
    refine (condT (dT (by omega))).trans ?_
    cases hl : decide (((List.length p.1 : Nat) : Int) > 0) with
    | false => rw [cond_false]; exact tAll_ok p p fr k m s3 s3
    | true =>
      rw [cond_true]
      have hl' : 0 < p.1.length := by simpa using hl
      obtain ⟨k1, k2⟩ := next_range L (b + 1 + 1 + 1 + 1) (n := ((p.1.length : Nat) : Int)) (by omega) (by omega)
      generalize next L (b + 1 + 1 + 1 + 1) ((p.1.length : Nat) : Int) = j at k1 k2 ⊢
      refine (condT (atOk_t (by omega) (by omega))).trans ?_
      unfold lawJ
      refine (condT (dT k1)).trans ?_
      refine (condT (dT k2)).trans ?_
      refine (condT (dT (by omega))).trans ?_
      refine (condT (dT (by omega))).trans ?_
      refine (condT (dT k1)).trans ?_
      refine (condT (dT k2)).trans ?_
      refine (condT (dT (by omega))).trans ?_
      refine (condT (dT (by omega))).trans ?_
      exact tAll_ok p (p.1.set j.toNat _, p.2) fr k m s3 (by rw [List.length_set]; exact s3)

end Go.Ev.N

namespace Go.Ev.N
open Go Go.Ev Go.Proofs
theorem e28 : EnvOk Tryz.prog En28 := sd28 e0 r28
theorem e10 : EnvOk Tryz.prog En10 := sd10 e28 r10
theorem e6 : EnvOk Tryz.prog En6 := sd6 e10 r6
theorem e8 : EnvOk Tryz.prog En8 := sd8 e6 r8
theorem e7 : EnvOk Tryz.prog En7 := sd7 e8 r7
theorem e25 : EnvOk Tryz.prog En25 := sd25 e7 r25
theorem e49 : EnvOk Tryz.prog En49 := sd49 e25 r49
theorem e26 : EnvOk Tryz.prog En26 := sd26 e49 r26
theorem e27 : EnvOk Tryz.prog En27 := sd27 e26 r27
theorem e4 : EnvOk Tryz.prog En4 := sd4 e27 r4
theorem e5 : EnvOk Tryz.prog En5 := sd5 e4 r5
theorem e9 : EnvOk Tryz.prog En9 := sd9 e5 r9
theorem e51 : EnvOk Tryz.prog En51 := sd51 e9 r51
theorem e31 : EnvOk Tryz.prog En31 := sd31 e51 r31
theorem e61 : EnvOk Tryz.prog En61 := sd61 e31 r61
theorem e52 : EnvOk Tryz.prog En52 := sd52 e61 r52
theorem e32 : EnvOk Tryz.prog En32 := sd32 e52 r32
theorem e64 : EnvOk Tryz.prog En64 := sd64 e32 r64
theorem e41 : EnvOk Tryz.prog En41 := sd41 e64 r41
theorem e63 : EnvOk Tryz.prog En63 := sd63 e41 r63
theorem e69 : EnvOk Tryz.prog En69 := sd69 e63 r69
theorem e70 : EnvOk Tryz.prog En70 := sd70 e69 r70
theorem e62 : EnvOk Tryz.prog En62 := sd62 e70 r62
theorem e65 : EnvOk Tryz.prog En65 := sd65 e62 r65
theorem e54 : EnvOk Tryz.prog En54 := sd54 e65 r54
theorem e35 : EnvOk Tryz.prog En35 := sd35 e54 r35
theorem e29 : EnvOk Tryz.prog En29 := sd29 e35 r29
theorem e50 : EnvOk Tryz.prog En50 := sd50 e29 r50
theorem e41a : EnvOk Tryz.prog En41a := sd41a e50 r41a
theorem e30 : EnvOk Tryz.prog En30 := sd30 e41a r30
theorem e11 : EnvOk Tryz.prog En11 := sd11 e30 r11
theorem e34 : EnvOk Tryz.prog En34 := sd34 e11 r34
theorem e53 : EnvOk Tryz.prog En53 := sd53 e34 r53
theorem e33 : EnvOk Tryz.prog En33 := sd33 e53 r33
theorem e12 : EnvOk Tryz.prog En12 := sd12 e33 r12
theorem e23 : EnvOk Tryz.prog En23 := sd23 e12 r23
theorem e36 : EnvOk Tryz.prog En36 := sd36 e23 r36
theorem e13 : EnvOk Tryz.prog En13 := sd13 e36 r13
theorem e42 : EnvOk Tryz.prog En42 := sd42 e13 r42
theorem e41b : EnvOk Tryz.prog En41b := sd41b e42 r41b
theorem e19 : EnvOk Tryz.prog En19 := sd19 e41b r19
theorem e38 : EnvOk Tryz.prog En38 := sd38 e19 r38
theorem e66 : EnvOk Tryz.prog En66 := sd66 e38 r66
theorem e55 : EnvOk Tryz.prog En55 := sd55 e66 r55
theorem e56 : EnvOk Tryz.prog En56 := sd56 e55 r56
theorem e37 : EnvOk Tryz.prog En37 := sd37 e56 r37
theorem e14 : EnvOk Tryz.prog En14 := sd14 e37 r14
theorem e39 : EnvOk Tryz.prog En39 := sd39 e14 r39
theorem e57 : EnvOk Tryz.prog En57 := sd57 e39 r57
theorem e43 : EnvOk Tryz.prog En43 := sd43 e57 r43
theorem e40 : EnvOk Tryz.prog En40 := sd40 e43 r40
theorem e15 : EnvOk Tryz.prog En15 := sd15 e40 r15
theorem e16 : EnvOk Tryz.prog En16 := sd16 e15 r16
theorem e17 : EnvOk Tryz.prog En17 := sd17 e16 r17
theorem e18 : EnvOk Tryz.prog En18 := sd18 e17 r18
theorem e20 : EnvOk Tryz.prog En20 := sd20 e18 r20
theorem e60 : EnvOk Tryz.prog En60 := sd60 e20 r60
theorem e46 : EnvOk Tryz.prog En46 := sd46 e60 r46
theorem e45 : EnvOk Tryz.prog En45 := sd45 e46 r45
theorem e53a : EnvOk Tryz.prog En53a := sd53a e45 r53a
theorem e33a : EnvOk Tryz.prog En33a := sd33a e53a r33a
theorem e95 : EnvOk Tryz.prog En95 := sd95 e33a r95
theorem e77 : EnvOk Tryz.prog En77 := sd77 e95 r77
theorem e71 : EnvOk Tryz.prog En71 := sd71 e77 r71
theorem e67 : EnvOk Tryz.prog En67 := sd67 e71 r67
theorem e80 : EnvOk Tryz.prog En80 := sd80 e67 r80
theorem e81 : EnvOk Tryz.prog En81 := sd81 e80 r81
theorem e68 : EnvOk Tryz.prog En68 := sd68 e81 r68
theorem e58 : EnvOk Tryz.prog En58 := sd58 e68 r58
theorem e58a : EnvOk Tryz.prog En58a := sd58a e58 (r58a e58)
theorem e59 : EnvOk Tryz.prog En59 := sd59 e58a r59
theorem e44 : EnvOk Tryz.prog En44 := sd44 e59 r44
theorem e21 : EnvOk Tryz.prog En21 := sd21 e44 r21
theorem e47 : EnvOk Tryz.prog En47 := sd47 e21 r47
theorem e22 : EnvOk Tryz.prog En22 := sd22 e47 r22
theorem e48 : EnvOk Tryz.prog En48 := sd48 e22 r48
theorem e24 : EnvOk Tryz.prog En24 := sd24 e48 r24
theorem lawSound : Sound Tryz.prog En24.gl 3 S3 := law e24 r3
end Go.Ev.N

set_option linter.unusedSimpArgs false
set_option linter.unusedVariables false
namespace Go.Ev
open Go

/-! ### from a contract to a row -/
/-- A row of whole numbers in memory. -/
def IsRow (k : IntKind) (w : World) (a : Option Addr) (len cap : Nat) (zs : List Int) : Prop :=
  (a = none ∧ len = 0 ∧ cap = 0 ∧ zs = []) ∨
  ∃ x, a = some x ∧ len ≤ cap ∧ zs.length = cap ∧ (∀ i, i < zs.length → w.cell? (x.add i) = some (.int k (zs.getD i 0)))

/-- What is left as it was. -/
def Kept (W w' : World) : Prop := w'.os = W.os ∧ w'.output = W.output ∧ W.heap.size ≤ w'.heap.size ∧ ∀ b, b < W.heap.size → w'.heap[b]? = W.heap[b]?

theorem Kept.but {W w' : World} (h : Kept W w') (may : MemPlace → Prop) : W.keptBut w' may := by
  refine ⟨h.1, h.2.1, fun i hi => ?_⟩
  rw [h.2.2.2 i hi]
  split <;> simp_all

theorem Kept.same {W w' : World} (h : Kept W w') {p : MemPlace} (hp : p.block < W.heap.size) : W.sameAt w' p := by
  cases p with
  | cell b o => exact World.cell?_of_block (w := W) (h.2.2.2 b hp)
  | map b => exact h.2.2.2 b hp

theorem Kept.trod {H : Type} {enc : TypeId × Value → H} {P : Program} {t : TypeId} (hl : laidOutB P = true) (hr : P.readableRec t = true) (hrow : t < P.types.size) {W W' : World} {v : Value} {d : DataW H} {ps : List MemPlace}
    (h : DataW.Trod enc P W 0 (fun _ => true) true t v d ps) (hb : Kept W W') (hlt : ∀ x ∈ ps, x.block < W.heap.size) :
    DataW.Trod enc P W' 0 (fun b => decide (b < W.heap.size)) true t v d ps :=
  WideElems.Trod_stays hl hr hrow h (fun x hx => hb.same (hlt x hx)) (fun x hx => by simpa using hlt x hx)

theorem row_rel {W : World} {k : IntKind} {a : Option Addr} {len cap : Nat} {zs : List Int} (h : IsRow k W a len cap zs) :
    RelD (fun b => b < W.heap.size) W.heap (.slice (.int k)) (zs.take len) [.slice a len cap] := by
  rcases h with ⟨rfl, rfl, rfl, rfl⟩ | ⟨x, rfl, h1, h2, h3⟩
  · exact ⟨none, 0, rfl, by simp, fun i x hx => by simp at hx⟩
  · have hlen : (zs.take len).length = len := by rw [List.length_take]; omega
    refine ⟨some x, cap, by rw [hlen], by rw [hlen]; omega, fun i y hy => ?_⟩
    have hi : i < (zs.take len).length := (List.getElem?_eq_some_iff.1 hy).1
    rw [hlen] at hi
    have hc := h3 i (by omega)
    have hsp : x.spot = none := by
      have h4 := World.cell?_spot (h3 0 (by omega))
      rwa [show x.add 0 = x from if_pos rfl] at h4
    have hadd : x.add i = ⟨x.block, x.off + i, none⟩ := by
      obtain ⟨b, o, sp⟩ := x
      simp only at hsp
      subst hsp
      unfold Addr.add
      split
      · rename_i h0; simp [h0]
      · rfl
    rw [hadd, cell_at] at hc
    have hy2 : zs.getD i 0 = y := by
      rw [List.getElem?_take, if_pos hi] at hy
      rw [List.getD_eq_getElem?_getD, hy]; rfl
    refine ⟨x, rfl, hsp, ?_, [.int k y], rfl, fun j u hu => ?_⟩
    · unfold cellAt at hc
      split at hc
      · rename_i hb
        exact (Array.getElem?_eq_some_iff.1 hb).1
      · cases hc
    · have hj : j = 0 := by
        have := (List.getElem?_eq_some_iff.1 hu).1
        simpa using this
      subst hj
      simp at hu; subst hu
      rw [show (Tc.int k).size = 1 from rfl, Nat.mul_one, Nat.add_zero, hc, hy2]

/-- A law over numbers: it answers true, and leaves memory alone. -/
theorem law_calls {P : Program} {G : (Nat → Prop) → Array Obj → Prop} {f : FuncId} {s : Spec} (hs : Sound P G f s) {L : List Int} (hok : s.ok ⟨[.dat (.slice (.int .i64)) L], []⟩ = true) (hfn : s.fn ⟨[.dat (.slice (.int .i64)) L], []⟩ = some ⟨[.dat .bool true], []⟩)
    {W : World} {a : Option Addr} {len cap : Nat} (hG : G (fun b => b < W.heap.size) W.heap) (hr : RelD (fun b => b < W.heap.size) W.heap (.slice (.int .i64)) L [.slice a len cap]) :
    Calls P f #[.slice a len cap] W fun e w' => e = .returned (.bool true) ∧ Kept W w' := by
  have hcore : Core (Fr.reg ⟨[.dat (.slice (.int .i64)) L], []⟩) (fun _ => ⟨0, 0, 0, true, none⟩) (fun b => b < W.heap.size) W.heap :=
    ⟨fun k => trivial, fun k k' h => h.elim, fun k h => h.elim, fun b h => h⟩
  have hv : RelVs (view (Fr.reg ⟨[.dat (.slice (.int .i64)) L], []⟩) (fun _ => ⟨0, 0, 0, true, none⟩) (fun b => b < W.heap.size) W.heap) [.dat (.slice (.int .i64)) L] [.slice a len cap] :=
    ⟨_, _, rfl, hr, rfl⟩
  refine (hs _ _ hok hfn [.slice a len cap] W _ _ hcore hG hv).mono ?_
  rintro e w' ⟨u, rfl, hm, loc', S', hc, hle, hu⟩
  have hu' : [u] = [Value.bool true] := hu
  refine ⟨by simpa using hu', hm.1, hm.2, hc.keep.size, fun b hb => hc.keep.same b hb ?_⟩
  rintro ⟨k, hk, _⟩
  exact hk.elim
end Go.Ev
