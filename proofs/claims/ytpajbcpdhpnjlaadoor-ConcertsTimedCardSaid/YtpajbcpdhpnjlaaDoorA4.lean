import Derived.Test.YtpajbcpdhpnjlaaDoorA3
import Derived.WalkKit
import Derived.ProofKit
import Derived.OpenShut
import Derived.ChangeOld
import Derived.Carry
import Derived.SizedLaws
set_option linter.unusedVariables false
set_option linter.unusedSimpArgs false
namespace Go.Ev.K
open Go Go.Ev Go.Proofs
theorem wrap_l (x y : Int) : wrap .i64 (wrap .i64 x + y) = wrap .i64 (x + y) := by
  simp only [wrap, IntKind.wrap_i64]
  omega
theorem wrap_r (x y : Int) : wrap .i64 (x + wrap .i64 y) = wrap .i64 (x + y) := by
  rw [Int.add_comm, wrap_l, Int.add_comm]

theorem tt_tim (p : Prgm) (fr : Int) : ∀ (l : List Item) (i a f : Int), f = wrap .i64 (fr + a) → ttGo fr (begGo p i a l).1 l = timGo p i f l
  | [], _, _, _, _ => rfl
  | [x], i, a, f, h => by subst h; rfl
  | x :: y :: l, i, a, f, h => by
    have ih := tt_tim p fr (y :: l) (i + 1) (wrap .i64 (wrap .i64 (a + x.2.2.1) + gapAt p i x y)) (wrap .i64 (wrap .i64 (f + x.2.2.1) + gapAt p i x y)) (by
      subst h
      simp only [wrap, IntKind.wrap_i64]
      omega)
    simp only [begGo, timGo, ttGo]
    rw [ih, h]

theorem long_last (p : Prgm) : ∀ (l : List Item) (x : Item) (i a : Int), ∃ t, (timGo p i a (x :: l)).getLast? = some t ∧ t.2.2 = (begGo p i a (x :: l)).2
  | [], x, i, a => ⟨_, rfl, rfl⟩
  | y :: l, x, i, a => by
    obtain ⟨t, h1, h2⟩ := long_last p l y (i + 1) (wrap .i64 (wrap .i64 (a + x.2.2.1) + gapAt p i x y))
    refine ⟨t, ?_, h2⟩
    simp only [timGo]
    rw [List.getLast?_cons, h1]; rfl

theorem long_eq (p : Prgm) : longR p = (begGo p 0 0 p.1).2 := by
  unfold longR
  cases p.1 with
  | nil => rfl
  | cons x l =>
    obtain ⟨t, h1, h2⟩ := long_last p l x 0 0
    rw [h1]; exact h2

theorem fromF_eq (p : Prgm) (f : Int) (h : checkProg keyR p = 0) : fromF p f = beginF p f := by
  unfold fromF beginF isMom
  rw [isKey_fun, h, long_eq, outside_in, Bool.not_not]
  rfl

theorem r3 : R3 := by
  intro a0 _
  have hA : (atOk 2000 (0 : Int) && (5 : Int) == 5) = true := rfl
  obtain ⟨⟨s1, s2, s3⟩, _⟩ := aProg_spec a0 0 5 hA
  rw [f3_run, condT hA]
  generalize aProg a0 0 5 = A at *
  obtain ⟨a, p⟩ := A
  simp only at s1 s2 s3 ⊢
  have h7 : t7_ok a0 a = true := by
    unfold t7_ok t7
    rw [atOk_t (k := 1) (a := a) (by omega) (by omega)]; rfl
  generalize t7_0 a0 a = fr
  simp only [eta_p]
  rw [h7, cond_true, isKey_fun, dT (p := p.1.length ≤ 1000) (by omega)]
  simp only [cond_true, bself]
  cases hc : checkProg keyR p == 0 with
  | false =>
    have hn : (checkProg keyR p != 0) = true := by rw [bne, hc]; rfl
    have e1 : fromF p fr = checkProg keyR p := by unfold fromF; rw [isKey_fun, condT hn]
    have e2 : timetable p fr = ([], checkProg keyR p) := by unfold timetable; rw [e1, condT hn]
    have e3 : longP p = (0, checkProg keyR p) := by unfold longP; rw [isKey_fun, condT hn]
    have e4 : changes p = (0, checkProg keyR p) := by unfold changes; rw [isKey_fun, condT hn]
    rw [e2, e3, e4]
    simp only [cond_false, bself, cond_true]
    rfl
  | true =>
    have h0 : checkProg keyR p = 0 := by simpa using hc
    have e1 := fromF_eq p fr h0
    have e3 : longP p = (longR p, 0) := by unfold longP; rw [isKey_fun, h0, long_eq]; rfl
    have e4 : changes p = (chGo p.2.2.2.2 0 p.1 0, 0) := by unfold changes; rw [isKey_fun, h0]; rfl
    rw [e3, e4, h0]
    simp only [cond_true, bself]
    cases hb : beginF p fr == 0 with
    | false =>
      have hn : (beginF p fr != 0) = true := by rw [bne, hb]; rfl
      have e2 : timetable p fr = ([], beginF p fr) := by unfold timetable; rw [e1, condT hn]
      rw [e2]
      simp only [cond_false, bself, cond_true]
      rfl
    | true =>
      have hz : beginF p fr = 0 := by simpa using hb
      have hm : wrap .i64 (fr + 0) = fr := by
        unfold beginF at hz
        cases hr : inR fr 0 345686399999 with
        | false => rw [hr] at hz; simp at hz
        | true =>
          simp only [inR, Bool.and_eq_true, decide_eq_true_eq] at hr
          rw [Int.add_zero]; exact wrap_in (by omega) (by omega)
      have e2 : timetable p fr = (timGo p 0 fr p.1, 0) := by
        unfold timetable; rw [e1, hz]
        show (ttGo fr (begGo p 0 0 p.1).1 p.1, (0 : Int)) = _
        rw [tt_tim p fr p.1 0 0 fr hm.symm]
      rw [e2, hz]
      have hl : (timGo p 0 fr p.1).length ≤ 1000 := by rw [timGo_len]; omega
      have hs : (timGo p 0 fr p.1 == timGo p 0 fr p.1) = true := by simp
      simp only [cond_true, bself, dT hl, hs]

end Go.Ev.K

set_option linter.unusedVariables false
set_option linter.unusedSimpArgs false
namespace Go.Ev.K
open Go Go.Ev Go.Proofs
theorem e83 : EnvOk Tryd.prog En83 := sd83 e0 r83
theorem e41 : EnvOk Tryd.prog En41 := sd41 e83 r41
theorem e29 : EnvOk Tryd.prog En29 := sd29 e41 r29
theorem e30 : EnvOk Tryd.prog En30 := sd30 e29 r30
theorem e35 : EnvOk Tryd.prog En35 := sd35 e30 r35
theorem e40 : EnvOk Tryd.prog En40 := sd40 e35 r40
theorem e31 : EnvOk Tryd.prog En31 := sd31 e40 r31
theorem e42 : EnvOk Tryd.prog En42 := sd42 e31 r42
theorem e43 : EnvOk Tryd.prog En43 := sd43 e42 r43
theorem e6 : EnvOk Tryd.prog En6 := sd6 e43 r6
theorem e7 : EnvOk Tryd.prog En7 := sd7 e6 r7
theorem e51 : EnvOk Tryd.prog En51 := sd51 e7 r51
theorem e88 : EnvOk Tryd.prog En88 := sd88 e51 r88
theorem e50 : EnvOk Tryd.prog En50 := sd50 e88 r50
theorem e86 : EnvOk Tryd.prog En86 := sd86 e50 r86
theorem e87 : EnvOk Tryd.prog En87 := sd87 e86 r87
theorem e49 : EnvOk Tryd.prog En49 := sd49 e87 r49
theorem e52 : EnvOk Tryd.prog En52 := sd52 e49 r52
theorem e53 : EnvOk Tryd.prog En53 := sd53 e52 r53
theorem e16 : EnvOk Tryd.prog En16 := sd16 e53 r16
theorem e18 : EnvOk Tryd.prog En18 := sd18 e16 r18
theorem e74 : EnvOk Tryd.prog En74 := sd74 e18 r74
theorem e85 : EnvOk Tryd.prog En85 := sd85 e74 r85
theorem e45 : EnvOk Tryd.prog En45 := sd45 e85 r45
theorem e84 : EnvOk Tryd.prog En84 := sd84 e45 r84
theorem e44 : EnvOk Tryd.prog En44 := sd44 e84 r44
theorem e8 : EnvOk Tryd.prog En8 := sd8 e44 r8
theorem e9 : EnvOk Tryd.prog En9 := sd9 e8 r9
theorem e10 : EnvOk Tryd.prog En10 := sd10 e9 r10
theorem e46 : EnvOk Tryd.prog En46 := sd46 e10 r46
theorem e89 : EnvOk Tryd.prog En89 := sd89 e46 r89
theorem e54 : EnvOk Tryd.prog En54 := sd54 e89 r54
theorem e90 : EnvOk Tryd.prog En90 := sd90 e54 r90
theorem e88a : EnvOk Tryd.prog En88a := sd88a e90 r88a
theorem e55 : EnvOk Tryd.prog En55 := sd55 e88a r55
theorem e56 : EnvOk Tryd.prog En56 := sd56 e55 r56
theorem e17 : EnvOk Tryd.prog En17 := sd17 e56 r17
theorem e11 : EnvOk Tryd.prog En11 := sd11 e17 r11
theorem e48 : EnvOk Tryd.prog En48 := sd48 e11 r48
theorem e15 : EnvOk Tryd.prog En15 := sd15 e48 r15
theorem e13 : EnvOk Tryd.prog En13 := sd13 e15 r13
theorem e47 : EnvOk Tryd.prog En47 := sd47 e13 r47
theorem e12 : EnvOk Tryd.prog En12 := sd12 e47 r12
theorem e14 : EnvOk Tryd.prog En14 := sd14 e12 r14
theorem e19 : EnvOk Tryd.prog En19 := sd19 e14 r19
theorem e20 : EnvOk Tryd.prog En20 := sd20 e19 r20
theorem lawSound : Sound Tryd.prog En20.gl 3 S3 := law e20 r3

end Go.Ev.K

set_option linter.unusedSimpArgs false
set_option linter.unusedVariables false
namespace Go.Ev
open Go

/-! ### from a contract to a row -/
/-- A row of whole numbers in memory. -/
def IsRow (k : IntKind) (w : World) (a : Option Addr) (len cap : Nat) (zs : List Int) : Prop :=
  (a = none ∧ len = 0 ∧ cap = 0 ∧ zs = []) ∨
  ∃ x, a = some x ∧ len ≤ cap ∧ zs.length = cap ∧ (∀ i, i < zs.length → w.cell? (x.add i) = some (.int k (zs.getD i 0)))

/-- What is left as it was. -/
def Kept (W w' : World) : Prop := w'.os = W.os ∧ w'.output = W.output ∧ W.heap.size ≤ w'.heap.size ∧ ∀ b, b < W.heap.size → w'.heap[b]? = W.heap[b]?

theorem Kept.but {W w' : World} (h : Kept W w') (may : MemPlace → Prop) : W.keptBut w' may := by
  refine ⟨h.1, h.2.1, fun i hi => ?_⟩
  rw [h.2.2.2 i hi]
  split <;> simp_all

theorem Kept.same {W w' : World} (h : Kept W w') {p : MemPlace} (hp : p.block < W.heap.size) : W.sameAt w' p := by
  cases p with
  | cell b o => exact World.cell?_of_block (w := W) (h.2.2.2 b hp)
  | map b => exact h.2.2.2 b hp

theorem Kept.trod {H : Type} {enc : TypeId × Value → H} {P : Program} {t : TypeId} (hl : laidOutB P = true) (hr : P.readableRec t = true) (hrow : t < P.types.size) {W W' : World} {v : Value} {d : DataW H} {ps : List MemPlace}
    (h : DataW.Trod enc P W 0 (fun _ => true) true t v d ps) (hb : Kept W W') (hlt : ∀ x ∈ ps, x.block < W.heap.size) :
    DataW.Trod enc P W' 0 (fun b => decide (b < W.heap.size)) true t v d ps :=
  WideElems.Trod_stays hl hr hrow h (fun x hx => hb.same (hlt x hx)) (fun x hx => by simpa using hlt x hx)

theorem row_rel {W : World} {k : IntKind} {a : Option Addr} {len cap : Nat} {zs : List Int} (h : IsRow k W a len cap zs) :
    RelD (fun b => b < W.heap.size) W.heap (.slice (.int k)) (zs.take len) [.slice a len cap] := by
  rcases h with ⟨rfl, rfl, rfl, rfl⟩ | ⟨x, rfl, h1, h2, h3⟩
  · exact ⟨none, 0, rfl, by simp, fun i x hx => by simp at hx⟩
  · have hlen : (zs.take len).length = len := by rw [List.length_take]; omega
    refine ⟨some x, cap, by rw [hlen], by rw [hlen]; omega, fun i y hy => ?_⟩
    have hi : i < (zs.take len).length := (List.getElem?_eq_some_iff.1 hy).1
    rw [hlen] at hi
    have hc := h3 i (by omega)
    have hsp : x.spot = none := by
      have h4 := World.cell?_spot (h3 0 (by omega))
      rwa [show x.add 0 = x from if_pos rfl] at h4
    have hadd : x.add i = ⟨x.block, x.off + i, none⟩ := by
      obtain ⟨b, o, sp⟩ := x
      simp only at hsp
      subst hsp
      unfold Addr.add
      split
      · rename_i h0; simp [h0]
      · rfl
    rw [hadd, cell_at] at hc
    have hy2 : zs.getD i 0 = y := by
      rw [List.getElem?_take, if_pos hi] at hy
      rw [List.getD_eq_getElem?_getD, hy]; rfl
    refine ⟨x, rfl, hsp, ?_, [.int k y], rfl, fun j u hu => ?_⟩
    · unfold cellAt at hc
      split at hc
      · rename_i hb
        exact (Array.getElem?_eq_some_iff.1 hb).1
      · cases hc
    · have hj : j = 0 := by
        have := (List.getElem?_eq_some_iff.1 hu).1
        simpa using this
      subst hj
      simp at hu; subst hu
      rw [show (Tc.int k).size = 1 from rfl, Nat.mul_one, Nat.add_zero, hc, hy2]

/-- A law over numbers: it answers true, and leaves memory alone. -/
theorem law_calls {P : Program} {G : (Nat → Prop) → Array Obj → Prop} {f : FuncId} {s : Spec} (hs : Sound P G f s) {L : List Int} (hok : s.ok ⟨[.dat (.slice (.int .i64)) L], []⟩ = true) (hfn : s.fn ⟨[.dat (.slice (.int .i64)) L], []⟩ = some ⟨[.dat .bool true], []⟩)
    {W : World} {a : Option Addr} {len cap : Nat} (hG : G (fun b => b < W.heap.size) W.heap) (hr : RelD (fun b => b < W.heap.size) W.heap (.slice (.int .i64)) L [.slice a len cap]) :
    Calls P f #[.slice a len cap] W fun e w' => e = .returned (.bool true) ∧ Kept W w' := by
  have hcore : Core (Fr.reg ⟨[.dat (.slice (.int .i64)) L], []⟩) (fun _ => ⟨0, 0, 0, true, none⟩) (fun b => b < W.heap.size) W.heap :=
    ⟨fun k => trivial, fun k k' h => h.elim, fun k h => h.elim, fun b h => h⟩
  have hv : RelVs (view (Fr.reg ⟨[.dat (.slice (.int .i64)) L], []⟩) (fun _ => ⟨0, 0, 0, true, none⟩) (fun b => b < W.heap.size) W.heap) [.dat (.slice (.int .i64)) L] [.slice a len cap] :=
    ⟨_, _, rfl, hr, rfl⟩
  refine (hs _ _ hok hfn [.slice a len cap] W _ _ hcore hG hv).mono ?_
  rintro e w' ⟨u, rfl, hm, loc', S', hc, hle, hu⟩
  have hu' : [u] = [Value.bool true] := hu
  refine ⟨by simpa using hu', hm.1, hm.2, hc.keep.size, fun b hb => hc.keep.same b hb ?_⟩
  rintro ⟨k, hk, _⟩
  exact hk.elim
end Go.Ev
