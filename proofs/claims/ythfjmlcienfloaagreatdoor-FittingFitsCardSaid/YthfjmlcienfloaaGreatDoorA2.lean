import Derived.Test.YthfjmlcienfloaaGreatDoorA1
import Derived.MapKept
import Derived.Maps.RangeRun
import Derived.Tactics
import Derived.Orders
set_option linter.unusedSimpArgs false
set_option linter.unusedVariables false
namespace Go.Ev
open Go

/-- A slice value that holds xs. -/
structure Holds (S : Nat → Prop) (h : Array Obj) (t : Tc) (xs : List t.den) (u : Value) : Prop where
  ex : ∃ a cap, u = .slice a xs.length cap ∧ xs.length ≤ cap ∧ (xs = [] ∨ ∃ ad c e fz, a = some ad ∧ ad.spot = none ∧ h[ad.block]? = some (.cells c e fz) ∧ ad.off + xs.length * t.size ≤ c.size ∧ Row S h t xs c.toList ad.off)

theorem tsize_pos : ∀ t : Tc, 0 < t.size
  | .pair a b => by have := tsize_pos a; simp only [Tc.size]; omega
  | .st t => tsize_pos t
  | .int _ => Nat.one_pos
  | .bool => Nat.one_pos
  | .str => Nat.one_pos
  | .slice _ => Nat.one_pos

theorem holds_relD {S h} {t : Tc} {xs : List t.den} {u : Value} (hr : RelD S h (.slice t) xs [u]) : Holds S h t xs u := by
  obtain ⟨a, cap, e, hc, hx⟩ := hr
  simp at e; subst e
  refine ⟨a, cap, rfl, hc, ?_⟩
  by_cases h0 : xs = []
  · exact .inl h0
  · right
    have hlen : 0 < xs.length := List.length_pos_iff.2 h0
    have hp := tsize_pos t
    obtain ⟨ad, rfl, hsp, hS, ecs, g1, g2⟩ := hx (xs.length - 1) (xs[xs.length - 1]'(by omega)) (by rw [List.getElem?_eq_getElem])
    have hel := RelD_len _ _ _ g1
    have hlast := g2 (t.size - 1) (ecs[t.size - 1]'(by omega)) (by rw [List.getElem?_eq_getElem])
    unfold cellAt at hlast
    cases hb : h[ad.block]? with
    | none => rw [hb] at hlast; simp at hlast
    | some o =>
      rw [hb] at hlast
      cases o <;> simp at hlast
      rename_i c e fz
      refine ⟨ad, c, e, fz, rfl, hsp, hb, ?_, fun i x hxi => ?_⟩
      · have := (Array.getElem?_eq_some_iff.1 hlast).1
        have hmul : (xs.length - 1) * t.size + t.size = xs.length * t.size := by rw [← Nat.succ_mul]; congr 1; omega
        omega
      · obtain ⟨ad', e', _, _, ecs', k1, k2⟩ := hx i x hxi
        cases e'
        refine ⟨ecs', k1, fun j u hu => ?_⟩
        have := k2 j u hu
        rw [cell_blk hb] at this
        simpa using this

theorem content_ok {loc S} {y : FV} {t : Tc} {ys : List t.den} {uy : Value} {fr fr1 : Fr} {h : Array Obj} (hg : (contentV y t).go fr = some (ys, fr1)) (hc : Core fr.reg loc S h)
    (hr : RelV (view fr.reg loc S h) y uy) : fr1 = fr ∧ Holds S h t ys uy := by
  unfold contentV at hg
  split at hg
  · rename_i k
    have hr' : slRel fr.reg loc S h k uy := hr
    cases hk : fr.reg k
    case arr t' xs =>
      simp only [takeAt, Pr.go, hk] at hg
      split at hg
      · rename_i e; subst e
        simp only [Bool.false_eq_true, if_false] at hg
        obtain ⟨rfl, rfl⟩ := go_ret hg
        refine ⟨rfl, ?_⟩
        simp only [slRel, hk] at hr'; subst hr'
        have hreg := hc.reg k
        rw [hk] at hreg
        rcases hreg with ⟨hn, rfl⟩ | ⟨hn, c, ce, hb, q1, q2, q3⟩
        · exact ⟨(loc k).base, 0, by simp [hdl, hn], by simp, .inl rfl⟩
        · refine ⟨some ⟨(loc k).blk, (loc k).off, none⟩, (loc k).cap, by simp only [hdl, hn, Bool.false_eq_true, if_false], q1, .inr ⟨_, c, ce, (0, 0), rfl, rfl, hb, ?_, fun i x hx => ?_⟩⟩
          · have : xs.length * t'.size ≤ (loc k).cap * t'.size := Nat.mul_le_mul_right _ q1
            simp only; omega
          · obtain ⟨ecs, g1, g2⟩ := q3 i x hx
            exact ⟨ecs, g1, fun j u hu => by rw [Array.getElem?_toList]; exact g2 j u hu⟩
      · exact (go_fail hg).elim
    case frz t' xs =>
      simp only [takeAt, Pr.go, hk] at hg
      split at hg
      · rename_i e; subst e
        obtain ⟨rfl, rfl⟩ := go_ret hg
        simp only [slRel, hk] at hr'
        exact ⟨rfl, holds_relD hr'⟩
      · exact (go_fail hg).elim
    all_goals simp [takeAt, Pr.go, hk] at hg
  · obtain ⟨x, h1, h2⟩ := go_popt hg
    obtain ⟨rfl, rfl⟩ := go_ret h2
    exact ⟨rfl, holds_relD (asD_rel ⟨rfl, rfl⟩ h1 hr)⟩

/-- The cells of a row. -/
theorem row_cells {S h} {t : Tc} {xs : List t.den} {c : List Value} {o : Nat} (hr : Row S h t xs c o) (hl : o + xs.length * t.size ≤ c.length) :
    Row S h t xs ((c.drop o).take (xs.length * t.size)) 0 ∧ ((c.drop o).take (xs.length * t.size)).length = xs.length * t.size ∧
      (∀ j u, ((c.drop o).take (xs.length * t.size))[j]? = some u → c[o + j]? = some u) ∧ ∀ u ∈ (c.drop o).take (xs.length * t.size), u.oneCell' = true := by
  have hget : ∀ j u, ((c.drop o).take (xs.length * t.size))[j]? = some u → j < xs.length * t.size ∧ c[o + j]? = some u := by
    intro j u hu
    rw [List.getElem?_take] at hu
    split at hu
    · rename_i hlt
      rw [List.getElem?_drop] at hu
      exact ⟨hlt, hu⟩
    · cases hu
  refine ⟨fun i x hx => ?_, by simp; omega, fun j u hu => (hget j u hu).2, fun u hu => ?_⟩
  · obtain ⟨ecs, g1, g2⟩ := hr i x hx
    refine ⟨ecs, g1, fun j u hu => ?_⟩
    have hj : j < ecs.length := (List.getElem?_eq_some_iff.1 hu).1
    rw [RelD_len _ _ _ g1] at hj
    have hi : i < xs.length := (List.getElem?_eq_some_iff.1 hx).1
    have hmul : i * t.size + t.size ≤ xs.length * t.size := by rw [← Nat.succ_mul]; exact Nat.mul_le_mul_right _ hi
    rw [List.getElem?_take, if_pos (by omega), List.getElem?_drop]
    have := g2 j u hu
    rw [← this]; congr 1; omega
  · obtain ⟨j, hj, he⟩ := List.mem_iff_getElem.1 hu
    obtain ⟨h1, h2⟩ := hget j u (by rw [List.getElem?_eq_getElem hj, he])
    have hp := tsize_pos t
    have hi : j / t.size < xs.length := Nat.div_lt_of_lt_mul (by rw [Nat.mul_comm]; exact h1)
    obtain ⟨ecs, g1, g2⟩ := hr (j / t.size) (xs[j / t.size]) (by rw [List.getElem?_eq_getElem hi])
    have hmod : j % t.size < t.size := Nat.mod_lt _ hp
    have hel := RelD_len _ _ _ g1
    have hq : ecs[j % t.size]? = some (ecs[j % t.size]'(by omega)) := by rw [List.getElem?_eq_getElem]
    have := g2 _ _ hq
    rw [show o + j / t.size * t.size + j % t.size = o + j by rw [Nat.add_assoc, Nat.mul_comm, Nat.div_add_mod]] at this
    rw [h2] at this
    simp at this
    rw [this]
    exact RelD_one _ _ _ g1 _ (List.getElem_mem _)

theorem Row_append {S h} {t : Tc} {xs ys : List t.den} {c : List Value} {o : Nat} (h1 : Row S h t xs c o) (h2 : Row S h t ys c (o + xs.length * t.size)) : Row S h t (xs ++ ys) c o := by
  intro i x hx
  by_cases hi : i < xs.length
  · exact h1 i x (by rwa [List.getElem?_append_left hi] at hx)
  · obtain ⟨ecs, g1, g2⟩ := h2 (i - xs.length) x (by rwa [List.getElem?_append_right (by omega)] at hx)
    refine ⟨ecs, g1, fun j u hu => ?_⟩
    have := g2 j u hu
    rw [← this]; congr 1
    have : xs.length * t.size + (i - xs.length) * t.size = i * t.size := by rw [← Nat.add_mul]; congr 1; omega
    omega

theorem Row_shift {S h} {t : Tc} {xs : List t.den} {c d : List Value} {o p : Nat} (hr : Row S h t xs c o) (hcd : ∀ j, j < xs.length * t.size → c[o + j]? = d[p + j]?) : Row S h t xs d p := by
  intro i x hx
  obtain ⟨ecs, g1, g2⟩ := hr i x hx
  refine ⟨ecs, g1, fun j u hu => ?_⟩
  have hj : j < ecs.length := (List.getElem?_eq_some_iff.1 hu).1
  rw [RelD_len _ _ _ g1] at hj
  have hi : i < xs.length := (List.getElem?_eq_some_iff.1 hx).1
  have hmul : i * t.size + t.size ≤ xs.length * t.size := by rw [← Nat.succ_mul]; exact Nat.mul_le_mul_right _ hi
  have := g2 j u hu
  rw [Nat.add_assoc] at this ⊢
  rw [← this]; exact (hcd _ (by omega)).symm

/-- What append reads. -/
theorem holds_src {P : Program} {S} {t : Tc} {ys : List t.den} {uy : Value} {w : World} {t2 e2 : TypeId} (hk : P.underlying t2 = some (.slice e2)) (hh : Holds S w.heap t ys uy) :
    ∃ news, Src P t.size t2 uy ys.length news w ∧ Row S w.heap t ys news 0 := by
  obtain ⟨a, cap, rfl, hcap, hx⟩ := hh.ex
  by_cases h0 : ys = []
  · subst h0
    refine ⟨[], ?_, fun i x hx => by simp at hx⟩
    cases a with
    | none => exact Src.ofNil w hk cap
    | some ad => exact Src.ofSlice w hk ad 0 cap [] (by simp) (fun j u hu => by simp at hu) (by simp)
  · obtain ⟨ad, c, e, fz, rfl, hsp, hb, hl, hr⟩ := hx.resolve_left h0
    obtain ⟨k1, k2, k3, k4⟩ := row_cells hr (by simpa using hl)
    refine ⟨_, Src.ofSlice w hk ad ys.length cap _ k2 (fun j u hu => ?_) k4, k1⟩
    rw [cell_ad w ad hsp, cell_blk hb, ← Array.getElem?_toList]
    exact k3 j u hu

/-- What append reads, whatever it is. -/
def Gives (P : Program) (S : Nat → Prop) (t : Tc) (t2 : TypeId) (uy : Value) (ys : List t.den) (w : World) : Prop := ∃ news, Src P t.size t2 uy ys.length news w ∧ Row S w.heap t ys news 0

theorem gives_str {P : Program} {S} {w : World} {t2 : TypeId} (hk : P.underlying t2 = some .string) (s : Bytes) : Gives P S (.int .u8) t2 (.string ⟨s.toArray⟩) (bytesI s) w := by
  refine ⟨byteCells ⟨s.toArray⟩, ?_, fun i x hx => ?_⟩
  · have := Src.ofString (P := P) w hk ⟨s.toArray⟩
    have e : (bytesI s).length = (⟨s.toArray⟩ : ByteArray).size := by simp [bytesI, ByteArray.size]
    rw [e]; exact this
  · refine ⟨[.int .u8 x], rfl, fun j u hu => ?_⟩
    have hj : j = 0 := by have := (List.getElem?_eq_some_iff.1 hu).1; simpa using this
    subst hj
    simp at hu; subst hu
    have : (bytesI s)[i]? = some x := hx
    simp only [bytesI, List.getElem?_map, Option.map_eq_some_iff] at this
    obtain ⟨b, hb, rfl⟩ := this
    simp [byteCells, Tc.size, hb]

theorem srcV_ok {P : Program} {E : Env} (hE : EnvOk P E) {loc S} {t2 : TypeId} {y : FV} {t : Tc} {ys : List t.den} {uy : Value} {fr fr1 : Fr} {w : World} (hg : (srcV E t2 y t).go fr = some (ys, fr1)) (hc : Core fr.reg loc S w.heap)
    (hr : RelV (view fr.reg loc S w.heap) y uy) : fr1 = fr ∧ Gives P S t t2 uy ys w := by
  have main : ∀ y, (popt (elemTc E t2) fun e2 => if e2.1 = t then contentV y t else .fail).go fr = some (ys, fr1) → RelV (view fr.reg loc S w.heap) y uy → fr1 = fr ∧ Gives P S t t2 uy ys w := by
    intro y hg hr
    replace hg := go_popt hg; obtain ⟨p, hp, hg⟩ := hg
    split at hg
    · rename_i e; subst e
      obtain ⟨e2, ei2, hu2, _⟩ := elem_info hE hp
      obtain ⟨rfl, hh⟩ := content_ok hg hc hr
      exact ⟨rfl, holds_src hu2 hh⟩
    · exact (go_fail hg).elim
  cases y
  case dat t' s =>
    cases t'
    case str =>
      simp only [srcV] at hg
      split at hg
      · rename_i e; subst e
        split at hg
        · rename_i hT
          obtain ⟨rfl, rfl⟩ := go_ret hg
          cases hr
          exact ⟨rfl, gives_str (strT_ok hE hT) s⟩
        · exact (go_fail hg).elim
      · exact (go_fail hg).elim
    all_goals exact main _ hg hr
  all_goals exact main _ hg hr

theorem nextcap_bound {need old b : Nat} (h : old < need) (hb : need * b ≤ 140737488355328) : Builtin.nextslicecap need old * b ≤ 281474976710656 := by
  have h1 := nextslicecap_le h
  have : Builtin.nextslicecap need old * b ≤ 2 * need * b := Nat.mul_le_mul_right _ h1
  rw [Nat.mul_assoc] at this
  omega

/-- append, where there is no room: a new row. -/
theorem append_grow {P : Program} {en : Ent} {rg loc S} {j : Nat} {t : Tc} {xs ys : List t.den} {w : World} {base : Option Addr} {cap : Nat} {uy : Value} {ty t1 t2 e : TypeId} {ei : TI}
    (hu : P.underlying t1 = some (.slice e)) (hok : OkTI P e ei) (hsz : ei.size = t.size) 
    (hc : Ctx en rg loc S w.heap) (hj : rg j = .abs) (hx : Holds S w.heap t xs (.slice base xs.length cap)) (hy : Gives P S t t2 uy ys w) (hcap : cap < xs.length + ys.length)
    (hb : (xs.length + ys.length) * ei.bytes ≤ 140737488355328) :
    ∃ u w1, (Builtin.append_ #[t1, t2] ty #[.slice base xs.length cap, uy]).run P w = .ok u w1 ∧ Sm w w1 ∧ ∃ loc1, Ctx en (modR rg j j (.arr t (xs ++ ys))) loc1 S w1.heap ∧
      (view rg loc S w.heap).le (view (modR rg j j (.arr t (xs ++ ys))) loc1 S w1.heap) ∧ slRel (modR rg j j (.arr t (xs ++ ys))) loc1 S w1.heap j u := by
  obtain ⟨i, hi, hisz, hib, z, hz, _, hzsz, _⟩ := hok.info
  obtain ⟨news, hsrc, hnr⟩ := hy
  have hbp := hok.bpos
  have hneed : xs.length + ys.length ≤ 140737488355328 := by
    have : (xs.length + ys.length) * 1 ≤ (xs.length + ys.length) * ei.bytes := Nat.mul_le_mul_left _ hbp
    omega
  have hisz' : i.size = t.size := by omega
  -- the old elements
  have hold : ∃ olds, (Builtin.firstCells i.size xs.length (.slice base xs.length cap)).run P w.drew = .ok olds.toArray w.drew ∧ olds.length = xs.length * t.size ∧ Row S w.heap t xs olds 0 := by
    obtain ⟨a, cap', e1, _, hx'⟩ := hx.ex
    simp at e1; obtain ⟨rfl, rfl⟩ := e1
    by_cases h0 : xs = []
    · subst h0
      refine ⟨[], ?_, by simp, fun i x hx => by simp at hx⟩
      cases base with
      | none => exact run_firstCells_none w.drew i.size 0 0 cap
      | some ad => exact run_firstCells_some w.drew i.size 0 ad 0 cap [] (by simp) (fun j u hu => by simp at hu)
    · obtain ⟨ad, c, ce, fz, rfl, hsp, hbk, hl, hr⟩ := hx'.resolve_left h0
      obtain ⟨k1, k2, k3, k4⟩ := row_cells hr (by simpa using hl)
      refine ⟨_, run_firstCells_some w.drew i.size xs.length ad xs.length cap _ (by rw [hisz']; exact k2) (fun j u hu => ?_), k2, k1⟩
      rw [World.cell?_drew, cell_ad w ad hsp, cell_blk hbk, ← Array.getElem?_toList]
      exact k3 j u hu
  obtain ⟨olds, ho1, ho2, ho3⟩ := hold
  rw [← hisz'] at hsrc
  have hrun := run_append_grow_src (P := P) w t1 t2 ty e i z hu hi hz base xs.length cap olds ho1 uy ys.length news hsrc hcap (by omega) (nextcap_bound hcap (by rw [hib]; exact hb))
  refine ⟨_, _, hrun, ⟨rfl, rfl⟩, ?_⟩
  have hge := grownCap_ge w (xs.length + ys.length) cap e
  have hnl := hsrc.newsLen
  rw [hisz'] at hnl
  have hrow : Row S w.heap t (xs ++ ys) ((olds ++ news).toArray ++ Builtin.zeroCells z.cells (grownCap w (xs.length + ys.length) cap e - (xs.length + ys.length))).toList 0 := by
    refine Row_append (Row_shift ho3 fun q hq => ?_) (Row_shift hnr fun q hq => ?_)
    · simp only [Array.toList_append, List.append_assoc]
      rw [List.getElem?_append_left (by omega)]
    · simp only [Array.toList_append, List.append_assoc]
      rw [List.getElem?_append_right (by omega), List.getElem?_append_left (by simp; omega)]
      congr 1; omega
  obtain ⟨loc1, m1, m2, m3⟩ := arr_new (c := (olds ++ news).toArray ++ Builtin.zeroCells z.cells (grownCap w (xs.length + ys.length) cap e - (xs.length + ys.length))) (e := e)
    (cap := grownCap w (xs.length + ys.length) cap e) hc hj hrow (by simp; omega) (by
      simp only [Array.size_append, List.size_toArray, List.length_append, ho2, hnl, Builtin.zeroCells, Array.size_map, Array.size_range, hzsz, hsz, ← Nat.add_mul]
      apply Nat.le_of_eq; congr 1; omega)
  refine ⟨loc1, m1, m2, ?_⟩
  simp only [List.length_append] at m3
  exact m3

end Go.Ev

set_option linter.unusedSimpArgs false
set_option linter.unusedVariables false
namespace Go.Ev
open Go

theorem part_run2 {P : Program} {t : TypeId} {b : Bool} {n : Nat} {w : World} (ha : (isAgg t).run P w = .ok b w) (hs : (sizeOf t).run P w = .ok n w) (hn : 0 < n) (cs : List Value) (o : Nat) (hl : o + n ≤ cs.length) :
    (part t cs.toArray o).run P w = .ok (if b then .agg ((cs.drop o).take n).toArray else ((cs.drop o).take n).headD undef) w := by
  simp only [part, Sem.run_bind, ha, Result.andThen_ok]
  cases b with
  | true => simp [hs, List.take_drop]
  | false =>
    have hlt : o < cs.length := by omega
    obtain ⟨m, rfl⟩ : ∃ m, n = m + 1 := ⟨n - 1, by omega⟩
    rw [List.drop_eq_getElem_cons hlt]
    simp only [List.take_succ_cons, List.headD_cons]
    simp [hlt]

theorem eqOk_agg {P : Program} : ∀ {n : Nat} {t : TypeId} {tc : Tc}, eqOk P n t tc = true → ∀ w : World, (isAgg t).run P w = .ok tc.isSt w
  | 0, _, _, h, _ => by simp [eqOk] at h
  | n + 1, t, tc, h, w => by
    unfold eqOk at h
    cases hu : P.underlying t with
    | none => rw [hu] at h; simp at h
    | some d =>
      rw [hu] at h
      unfold isAgg
      rw [Sem.run_bind, run_underlying hu w]
      cases d <;> cases tc <;> simp at h ⊢ <;> simp [Tc.isSt]

theorem eq_run {P : Program} {S S' : Nat → Prop} {h h' : Array Obj} : ∀ (n : Nat) (t : TypeId) (tc : Tc) (d : Nat) (x y : tc.den) (u v : Value) (w : World), eqOk P n t tc = true → n ≤ d → RelVal S h tc x u → RelVal S' h' tc y v →
    (Op.equalIn d t u v).run P w = .ok (tc.beq x y) w := by
  intro n
  induction n with
  | zero => intro t tc d x y u v w he; simp [eqOk] at he
  | succ n ih =>
    intro t tc d x y u v w he hd hx hy
    obtain ⟨d, rfl⟩ : ∃ m, d = m + 1 := ⟨d - 1, by omega⟩
    unfold eqOk at he
    cases hu : P.underlying t with
    | none => rw [hu] at he; simp at he
    | some ds =>
      rw [hu] at he
      cases ds <;> cases tc <;> simp only [Bool.false_eq_true, Bool.and_eq_true, Bool.not_eq_true'] at he
      · -- bool
        cases hx; cases hy
        exact run_equalIn_bool' w d t x y hu
      · cases hx; cases hy
        rename_i k k'
        exact run_equalIn_int w d t _ _ x y hu
      · cases hx; cases hy
        rw [run_equalIn_string w d t _ _ hu, str_toList, str_toList]
        rfl
      · rename_i fs c
        obtain ⟨hp, hfs⟩ := he
        obtain ⟨cx, rfl, rx⟩ := hx
        obtain ⟨cy, rfl, ry⟩ := hy
        have hfo : P.fieldsOf t = fs := by simp [Program.fieldsOf, hu]
        rw [run_equalIn_struct w d t _ _ (by rw [hfo]; exact hu) hp, hfo]
        have key : ∀ (l : List Field) (off : Nat) (c : Tc) (x y : c.den) (px cx py cy : List Value), eqFs P (eqOk P n) l off c = true → px.length = off → py.length = off → RelD S h c x cx → RelD S' h' c y cy →
            (Op.eqFields d (px ++ cx).toArray (py ++ cy).toArray l).run P w = .ok (c.beq x y) w := by
          intro l
          induction l with
          | nil => intro off c x y px cx py cy he; simp [eqFs] at he
          | cons f l ihl =>
            intro off c x y px cx py cy he hpx hpy rx ry
            have one : ∀ (a : Tc) (x y : a.den) (c1 c2 d1 d2 : List Value), (f.name != "_") = true → f.offset = off → ((P.info? f.type).map (·.size)) = some a.size → a.top = true → eqOk P n f.type a = true →
                RelD S h a x c1 → RelD S' h' a y d1 → ∀ rest, (Op.eqFields d (px ++ (c1 ++ c2)).toArray (py ++ (d1 ++ d2)).toArray (f :: rest)).run P w =
                  if a.beq x y = false then .ok false w else (Op.eqFields d (px ++ (c1 ++ c2)).toArray (py ++ (d1 ++ d2)).toArray rest).run P w := by
              intro a x y c1 c2 d1 d2 hnm ho hsz htop hok r1 r2 rest
              have hl1 := RelD_len _ _ _ r1
              have hl2 := RelD_len _ _ _ r2
              have hsr : (sizeOf f.type).run P w = .ok a.size w := by
                cases hi : P.info? f.type with
                | none => rw [hi] at hsz; simp at hsz
                | some i => rw [hi] at hsz; simp at hsz; simp [sizeOf, typeInfo, hi, hsz]
              have hag := eqOk_agg hok w
              have e1 : ((px ++ (c1 ++ c2)).drop off).take a.size = c1 := by rw [← hpx, List.drop_left, ← hl1, List.take_left]
              have e2 : ((py ++ (d1 ++ d2)).drop off).take a.size = d1 := by rw [← hpy, List.drop_left, ← hl2, List.take_left]
              have p1 := part_run2 hag hsr (tsize_pos a) (px ++ (c1 ++ c2)) off (by simp; omega)
              have p2 := part_run2 hag hsr (tsize_pos a) (py ++ (d1 ++ d2)) off (by simp; omega)
              rw [e1] at p1; rw [e2] at p2
              have hq := ih f.type a d x y _ _ w hok (by omega) (RelVal_of_cells htop r1) (RelVal_of_cells htop r2)
              simp only [Op.eqFields]
              have hnm' : f.name ≠ "_" := by simpa using hnm
              rw [if_pos hnm']
              rw [ho]
              simp only [Sem.run_bind, p1, Result.andThen_ok, p2, hq, Sem.run_ite]
              cases a.beq x y <;> simp
            cases l with
            | nil =>
              simp only [eqFs, Bool.and_eq_true, beq_iff_eq] at he
              obtain ⟨⟨⟨⟨h1, h2⟩, h3⟩, h4⟩, h5⟩ := he
              have := one c x y cx [] cy [] h1 h2 h3 h4 h5 rx ry []
              simp only [List.append_nil] at this
              rw [this]
              cases hb : c.beq x y <;> simp [Op.eqFields]
            | cons g l =>
              cases c with
              | pair a b =>
                simp only [eqFs, Bool.and_eq_true, beq_iff_eq] at he
                obtain ⟨⟨⟨⟨⟨h1, h2⟩, h3⟩, h4⟩, h5⟩, h6⟩ := he
                obtain ⟨c1, c2, rfl, r1, r2⟩ := rx
                obtain ⟨d1, d2, rfl, s1, s2⟩ := ry
                rw [one a x.1 y.1 c1 c2 d1 d2 h1 h2 h3 h4 h5 r1 s1 (g :: l)]
                have hl1 := RelD_len _ _ _ r1
                have hl2 := RelD_len _ _ _ s1
                have := ihl (off + a.size) b x.2 y.2 (px ++ c1) c2 (py ++ d1) d2 h6 (by simp; omega) (by simp; omega) r2 s2
                simp only [List.append_assoc] at this
                rw [this]
                simp only [Tc.beq]
                cases a.beq x.1 y.1 <;> simp
              | _ => simp [eqFs] at he
        have := key fs.toList 0 c x y [] cx [] cy hfs rfl rfl rx ry
        simpa [Tc.beq] using this


/-! ### keys of maps -/
def ckFields (e : Bool) (n : Nat) (cs : Array Value) : List Field → Sem Unit
  | [] => pure ()
  | f :: fs => do
    if f.name ≠ "_" then
      let v ← part f.type cs f.offset
      Instr.checkKey e n f.type v
    ckFields e n cs fs

theorem run_checkKey_struct {P : Program} (w : World) (e : Bool) (n : Nat) (t : TypeId) (fs : Array Field) (cs : Array Value) (ht : P.underlying t = some (.struct fs)) :
    (Instr.checkKey e (n + 1) t (.agg cs)).run P w = (ckFields e n cs fs.toList).run P w := by
  unfold Instr.checkKey
  simp only [Sem.run_bind, run_underlying ht, Result.andThen_ok]
  rw [← Array.forIn_toList]
  generalize fs.toList = l
  clear ht
  induction l generalizing w with
  | nil => simp [ckFields]
  | cons f l ih =>
    simp only [List.forIn_cons, ckFields, Sem.run_bind, Sem.run_ite]
    split
    · generalize (part f.type cs f.offset).run P w = r1
      cases r1 with
      | ok a w1 =>
        simp only [Result.andThen_ok]
        generalize (Instr.checkKey e n f.type a).run P w1 = r2
        cases r2 with
        | ok u w2 =>
          simp only [Result.andThen_ok, Sem.run_pure]
          exact ih w2
        | halt _ _ => rfl
      | halt _ _ => rfl
    · simp only [Sem.run_pure, Result.andThen_ok]
      exact ih w

theorem check_run {P : Program} {S : Nat → Prop} {h : Array Obj} (em : Bool) : ∀ (n : Nat) (t : TypeId) (tc : Tc) (d : Nat) (x : tc.den) (u : Value) (w : World), eqOk P n t tc = true → n ≤ d → RelVal S h tc x u →
    (Instr.checkKey em d t u).run P w = .ok () w := by
  intro n
  induction n with
  | zero => intro t tc d x u w he; simp [eqOk] at he
  | succ n ih =>
    intro t tc d x u w he hd hx
    obtain ⟨d, rfl⟩ : ∃ m, d = m + 1 := ⟨d - 1, by omega⟩
    unfold eqOk at he
    cases hu : P.underlying t with
    | none => rw [hu] at he; simp at he
    | some ds =>
      rw [hu] at he
      cases ds <;> cases tc <;> simp only [Bool.false_eq_true, Bool.and_eq_true, Bool.not_eq_true'] at he
      · cases hx
        simp [Instr.checkKey, run_underlying hu, Result.andThen]
      · cases hx
        simp [Instr.checkKey, run_underlying hu, Result.andThen]
      · cases hx
        simp [Instr.checkKey, run_underlying hu, Result.andThen]
      · rename_i fs c
        obtain ⟨hp, hfs⟩ := he
        obtain ⟨cx, rfl, rx⟩ := hx
        rw [run_checkKey_struct w em d t fs _ hu]
        have key : ∀ (l : List Field) (off : Nat) (c : Tc) (x : c.den) (px cx : List Value), eqFs P (eqOk P n) l off c = true → px.length = off → RelD S h c x cx →
            (ckFields em d (px ++ cx).toArray l).run P w = .ok () w := by
          intro l
          induction l with
          | nil => intro off c x px cx he; simp [eqFs] at he
          | cons f l ihl =>
            intro off c x px cx he hpx rx
            have one : ∀ (a : Tc) (x : a.den) (c1 c2 : List Value), (f.name != "_") = true → f.offset = off → ((P.info? f.type).map (·.size)) = some a.size → a.top = true → eqOk P n f.type a = true →
                RelD S h a x c1 → ∀ rest, (ckFields em d (px ++ (c1 ++ c2)).toArray (f :: rest)).run P w = (ckFields em d (px ++ (c1 ++ c2)).toArray rest).run P w := by
              intro a x c1 c2 hnm ho hsz htop hok r1 rest
              have hl1 := RelD_len _ _ _ r1
              have hsr : (sizeOf f.type).run P w = .ok a.size w := by
                cases hi : P.info? f.type with
                | none => rw [hi] at hsz; simp at hsz
                | some i => rw [hi] at hsz; simp at hsz; simp [sizeOf, typeInfo, hi, hsz]
              have hag := eqOk_agg hok w
              have e1 : ((px ++ (c1 ++ c2)).drop off).take a.size = c1 := by rw [← hpx, List.drop_left, ← hl1, List.take_left]
              have p1 := part_run2 hag hsr (tsize_pos a) (px ++ (c1 ++ c2)) off (by simp; omega)
              rw [e1] at p1
              have hq := ih f.type a d x _ w hok (by omega) (RelVal_of_cells htop r1)
              simp only [ckFields]
              have hnm' : f.name ≠ "_" := by simpa using hnm
              rw [if_pos hnm']
              rw [ho]
              simp only [Sem.run_bind, p1, Result.andThen_ok, hq]
            cases l with
            | nil =>
              simp only [eqFs, Bool.and_eq_true, beq_iff_eq] at he
              obtain ⟨⟨⟨⟨h1, h2⟩, h3⟩, h4⟩, h5⟩ := he
              have := one c x cx [] h1 h2 h3 h4 h5 rx []
              simp only [List.append_nil] at this
              rw [this]
              simp [ckFields]
            | cons g l =>
              cases c with
              | pair a b =>
                simp only [eqFs, Bool.and_eq_true, beq_iff_eq] at he
                obtain ⟨⟨⟨⟨⟨h1, h2⟩, h3⟩, h4⟩, h5⟩, h6⟩ := he
                obtain ⟨c1, c2, rfl, r1, r2⟩ := rx
                rw [one a x.1 c1 c2 h1 h2 h3 h4 h5 r1 (g :: l)]
                have hl1 := RelD_len _ _ _ r1
                have := ihl (off + a.size) b x.2 (px ++ c1) c2 h6 (by simp; omega) r2
                simpa only [List.append_assoc] using this
              | _ => simp [eqFs] at he
        simpa using key fs.toList 0 c x [] cx hfs rfl rx

theorem RelD_det {S S' : Nat → Prop} {h h' : Array Obj} : ∀ (t : Tc) (x y : t.den) (cs ds : List Value), t.flat = true → RelD S h t x cs → RelD S' h' t y ds → (t.beq y x = true ↔ ds = cs)
  | .int k, x, y, _, _, _, e1, e2 => by cases e1; cases e2; simp [Tc.beq]
  | .bool, x, y, _, _, _, e1, e2 => by cases e1; cases e2; simp [Tc.beq]
  | .str, x, y, _, _, _, e1, e2 => by
    cases e1; cases e2
    simp only [Tc.beq, beq_iff_eq, List.cons.injEq, Value.string.injEq, ByteArray.mk.injEq, and_true]
    constructor
    · intro e; rw [e]
    · intro e; simpa using e
  | .slice t, _, _, _, _, hf, _, _ => by simp [Tc.flat] at hf
  | .pair a b, x, y, _, _, hf, ⟨c1, c2, e, r1, r2⟩, ⟨d1, d2, e', s1, s2⟩ => by
    subst e; subst e'
    simp only [Tc.flat, Bool.and_eq_true] at hf
    have l1 := RelD_len _ _ _ r1
    have l2 := RelD_len _ _ _ s1
    simp only [Tc.beq, Bool.and_eq_true, RelD_det a _ _ _ _ hf.1 r1 s1, RelD_det b _ _ _ _ hf.2 r2 s2]
    constructor
    · rintro ⟨rfl, rfl⟩; rfl
    · intro e; exact List.append_inj e (by omega)
  | .st t, x, y, cs, ds, hf, e1, e2 => RelD_det t x y cs ds hf e1 e2

/-- Types of keys. -/
def KeyOK (P : Program) (kt : TypeId) (tk : Tc) : Prop := tk.flat = true ∧ tk.top = true ∧ ∃ d, P.underlying kt = some d ∧ ((∃ k, tk = .int k ∧ d = .int k) ∨ (tk = .str ∧ d = .string) ∨ ((∃ c, tk = .st c) ∧ (∃ fs, d = .struct fs) ∧ eqOk P 50 kt tk = true))

theorem key_beq {P : Program} {kt : TypeId} {tk : Tc} (hk : KeyOK P kt tk) {S S' h h'} {x y : tk.den} {v u : Value} (hx : RelVal S h tk x v) (hy : RelVal S' h' tk y u) : tk.beq y x = true ↔ u = v := by
  have hd := RelD_det tk x y _ _ hk.1 (RelVal_cells hx) (RelVal_cells hy)
  rw [hd]
  obtain ⟨_, _, d, _, h⟩ := hk
  rcases h with ⟨k, rfl, _⟩ | ⟨rfl, _⟩ | ⟨⟨c, rfl⟩, _⟩
  · cases hx; cases hy; simp [Value.cells]
  · cases hx; cases hy; simp [Value.cells]
  · obtain ⟨cx, rfl, _⟩ := hx
    obtain ⟨cy, rfl, _⟩ := hy
    simp [Value.cells]

theorem run_check {P : Program} {kt : TypeId} {tk : Tc} (hk : KeyOK P kt tk) {S h} {x : tk.den} {v : Value} (hx : RelVal S h tk x v) (em : Bool) (n : Nat) (w : World) : (Instr.checkKey em (n + 50) kt v).run P w = .ok () w := by
  obtain ⟨_, _, d, hd, hh⟩ := hk
  rcases hh with ⟨k, rfl, rfl⟩ | ⟨rfl, rfl⟩ | ⟨_, _, he⟩
  · cases hx
    exact MapKept.run_checkKey hd (show MapKept.IsKey (.int k) (.int k x) from rfl) em (n + 49)
  · cases hx
    exact MapKept.run_checkKey hd (show MapKept.IsKey .string (.string _) from trivial) em (n + 49)
  · exact check_run em 50 kt tk (n + 50) x v w he (by omega) hx

/-- The first entry of a key. -/
def FirstAt (es : List MapEntry) (v : Value) (o : Option (Nat × Value)) : Prop :=
  (o = none ∧ ∀ e ∈ es, e.key ≠ v) ∨ ∃ j e, o = some (j, e.val) ∧ es[j]? = some e ∧ e.key = v ∧ ∀ n e', n < j → es[n]? = some e' → e'.key ≠ v

theorem run_find {P : Program} {kt : TypeId} {tk : Tc} (hk : KeyOK P kt tk) {S h} {x : tk.den} {v : Value} (hx : RelVal S h tk x v) {es : List MapEntry} (hes : ∀ e ∈ es, ∃ y : tk.den, RelVal S h tk y e.key) (w : World) :
    ∃ o, (Instr.findKey kt v es).run P w = .ok o w ∧ FirstAt es v o := by
  have hk' := hk
  obtain ⟨_, _, d, hd, hh⟩ := hk
  have plain : MapKept.IsKey d v → (∀ e ∈ es, MapKept.IsKey d e.key) → ∃ o, (Instr.findKey kt v es).run P w = .ok o w ∧ FirstAt es v o := by
    intro h1 h2
    have first : ∀ (l : List MapEntry) (i : Nat), (∀ x ∈ l, MapKept.IsKey d x.key) →
        (Instr.findNow d v l i = some none ∧ ∀ x ∈ l, x.key ≠ v) ∨ ∃ j e, Instr.findNow d v l i = some (some (i + j, e.val)) ∧ l[j]? = some e ∧ e.key = v ∧ ∀ n e', n < j → l[n]? = some e' → e'.key ≠ v := by
      intro l
      induction l with
      | nil => intro i _; exact .inl ⟨rfl, by simp⟩
      | cons e es ih =>
        intro i h
        obtain ⟨r, hr, hiff⟩ := MapKept.sameNow_of_keys h1 (h e (.head _))
        cases r with
        | true => exact .inr ⟨0, e, by simp [Instr.findNow, hr], rfl, (hiff.1 rfl).symm, fun n e' hn => by omega⟩
        | false =>
          have hne : e.key ≠ v := fun q => by have := hiff.2 q.symm; cases this
          rcases ih (i + 1) (fun x hx => h x (.tail _ hx)) with ⟨g1, g2⟩ | ⟨j, e', g1, g2, g3, g4⟩
          · exact .inl ⟨by simp [Instr.findNow, hr, g1], fun x hx => by
              cases hx with
              | head => exact hne
              | tail _ hx => exact g2 x hx⟩
          · refine .inr ⟨j + 1, e', by simp [Instr.findNow, hr, g1]; omega, by simpa using g2, g3, fun n e'' hn he => ?_⟩
            cases n with
            | zero => simp at he; subst he; exact hne
            | succ n => exact g4 n e'' (by omega) (by simpa using he)
    rcases first es 0 h2 with ⟨f1, f2⟩ | ⟨j, e, f1, f2, f3, f4⟩
    · exact ⟨none, MapKept.run_findKey hd f1, .inl ⟨rfl, f2⟩⟩
    · exact ⟨some (j, e.val), by rw [MapKept.run_findKey hd f1]; simp, .inr ⟨j, e, rfl, f2, f3, f4⟩⟩
  rcases hh with ⟨k, rfl, rfl⟩ | ⟨rfl, rfl⟩ | ⟨⟨c, rfl⟩, ⟨fs, rfl⟩, he⟩
  · exact plain (by cases hx; rfl) fun e hm => by obtain ⟨y, hy⟩ := hes e hm; have : [e.key] = [Value.int k y] := hy; rw [List.singleton_inj.1 this]; rfl
  · exact plain (by cases hx; trivial) fun e hm => by obtain ⟨y, hy⟩ := hes e hm; have : [e.key] = [Value.string ⟨List.toArray y⟩] := hy; rw [List.singleton_inj.1 this]; trivial
  · cases es with
    | nil => exact ⟨none, by simp [Instr.findKey, run_underlying hd, Result.andThen, Instr.findNow], .inl ⟨rfl, by simp⟩⟩
    | cons e0 es0 =>
      have hn : Instr.findNow (.struct fs) v (e0 :: es0) 0 = none := by
        simp only [Instr.findNow]
        have : Instr.sameNow (.struct fs) v e0.key = none := by simp [Instr.sameNow]
        rw [this]
      have hfk : (Instr.findKey kt v (e0 :: es0)).run P w = (Instr.findAsking kt v (e0 :: es0) 0).run P w := by
        simp [Instr.findKey, run_underlying hd, Result.andThen, hn]
      rw [hfk]
      generalize e0 :: es0 = l at hes ⊢
      have ask : ∀ (l : List MapEntry) (i : Nat), (∀ e ∈ l, ∃ y : (Tc.st c).den, RelVal S h (.st c) y e.key) →
          ((Instr.findAsking kt v l i).run P w = .ok none w ∧ ∀ x ∈ l, x.key ≠ v) ∨ ∃ j e, (Instr.findAsking kt v l i).run P w = .ok (some (i + j, e.val)) w ∧ l[j]? = some e ∧ e.key = v ∧ ∀ n e', n < j → l[n]? = some e' → e'.key ≠ v := by
        intro l
        induction l with
        | nil => intro i _; exact .inl ⟨rfl, by simp⟩
        | cons e es ih =>
          intro i hh
          obtain ⟨y, hy⟩ := hh e (.head _)
          have hq : (Op.equal kt v e.key).run P w = .ok ((Tc.st c).beq x y) w := eq_run 50 kt (.st c) 10000 x y v e.key w he (by decide) hx hy
          have hb := key_beq hk' hy hx
          cases hr : (Tc.st c).beq x y with
          | true =>
            rw [hr] at hq
            exact .inr ⟨0, e, by simp [Instr.findAsking, hq, Result.andThen], rfl, (hb.1 hr).symm, fun n e' hn => by omega⟩
          | false =>
            rw [hr] at hq
            have hne : e.key ≠ v := fun q => by have := hb.2 q.symm; rw [hr] at this; cases this
            rcases ih (i + 1) (fun x hx => hh x (.tail _ hx)) with ⟨g1, g2⟩ | ⟨j, e', g1, g2, g3, g4⟩
            · exact .inl ⟨by simp [Instr.findAsking, hq, Result.andThen, g1], fun x hx => by
                cases hx with
                | head => exact hne
                | tail _ hx => exact g2 x hx⟩
            · refine .inr ⟨j + 1, e', by simp [Instr.findAsking, hq, Result.andThen, g1]; omega, by simpa using g2, g3, fun n e'' hn he => ?_⟩
              cases n with
              | zero => simp at he; subst he; exact hne
              | succ n => exact g4 n e'' (by omega) (by simpa using he)
      rcases ask l 0 hes with ⟨f1, f2⟩ | ⟨j, e, f1, f2, f3, f4⟩
      · exact ⟨none, f1, .inl ⟨rfl, f2⟩⟩
      · exact ⟨some (j, e.val), by rw [f1]; simp, .inr ⟨j, e, rfl, f2, f3, f4⟩⟩

/-- The key that stands there stays. -/
theorem same_bits {S h} : ∀ (t : Tc) (x : t.den) (cs : List Value), t.flat = true → RelD S h t x cs → ∀ v ∈ cs, ∀ n, Instr.sameBits n v v = true
  | .int k, x, _, _, e, v, hv, n => by cases e; simp at hv; subst hv; cases n <;> simp [Instr.sameBits]
  | .bool, x, _, _, e, v, hv, n => by cases e; simp at hv; subst hv; cases n <;> simp [Instr.sameBits]
  | .str, x, _, _, e, v, hv, n => by
    cases e; simp at hv; subst hv
    have : ∀ b : ByteArray, (b == b) = true := fun b => (MapKept.bytes_beq b b).2 rfl
    cases n <;> simp [Instr.sameBits, this]
  | .slice t, _, _, hf, _, _, _, _ => by simp [Tc.flat] at hf
  | .pair a b, x, _, hf, ⟨c1, c2, e, r1, r2⟩, v, hv, n => by
    subst e
    simp only [Tc.flat, Bool.and_eq_true] at hf
    rcases List.mem_append.1 hv with hv | hv
    · exact same_bits a _ _ hf.1 r1 v hv n
    · exact same_bits b _ _ hf.2 r2 v hv n
  | .st t, x, cs, hf, e, v, hv, n => same_bits t x cs hf e v hv n

theorem run_stays {P : Program} {kt : TypeId} {tk : Tc} (hk : KeyOK P kt tk) {S h} {x : tk.den} {v : Value} (hx : RelVal S h tk x v) (w : World) : (Instr.keyThatStays v v).run P w = .ok v w := by
  have hb : Instr.sameBits 10000 v v = true := by
    obtain ⟨hf, _, d, hd, hh⟩ := hk
    rcases hh with ⟨k, rfl, _⟩ | ⟨rfl, _⟩ | ⟨⟨c, rfl⟩, _⟩
    · cases hx; simp [Instr.sameBits]
    · cases hx
      have : ∀ b : ByteArray, (b == b) = true := fun b => (MapKept.bytes_beq b b).2 rfl
      simp [Instr.sameBits, this]
    · obtain ⟨cx, rfl, rx⟩ := hx
      have := same_bits c _ _ hf rx
      simp only [Instr.sameBits, beq_self_eq_true, Bool.true_and, List.all_eq_true]
      rintro ⟨a, b⟩ hab
      obtain ⟨i, hi⟩ := List.mem_iff_getElem?.1 hab
      rw [List.getElem?_zip_eq_some] at hi
      simp only at hi
      obtain ⟨h1, h2⟩ := hi
      rw [h1] at h2; cases h2
      exact this a (by simpa using List.mem_of_getElem? h1) _
  simp [Instr.keyThatStays, hb]

end Go.Ev

set_option linter.unusedSimpArgs false
set_option linter.unusedVariables false
namespace Go.Ev
open Go

theorem append_nil0 {P : Program} {en : Ent} {rg loc S} {j : Nat} {t : Tc} {ys : List t.den} {w : World} {uy : Value} {base : Option Addr} {ty t1 t2 e : TypeId} {ei : TI}
    (hu : P.underlying t1 = some (.slice e)) (hok : OkTI P e ei) (hsz : ei.size = t.size)
    (hc : Ctx en rg loc S w.heap) (hj : rg j = .abs) (hy : Gives P S t t2 uy ys w) (hb : ys.length * ei.bytes ≤ 140737488355328) :
    ∃ u w1, (Builtin.append_ #[t1, t2] ty #[.slice base 0 0, uy]).run P w = .ok u w1 ∧ Sm w w1 ∧ ∃ loc1, Ctx en (modR rg j j (.arr t ys)) loc1 S w1.heap ∧
      (view rg loc S w.heap).le (view (modR rg j j (.arr t ys)) loc1 S w1.heap) ∧ slRel (modR rg j j (.arr t ys)) loc1 S w1.heap j u := by
  by_cases h0 : ys = []
  · subst h0
    obtain ⟨news, hsrc, _⟩ := hy
    obtain ⟨i, hi, hisz, _⟩ := hok.info
    have hn0 : news = [] := List.eq_nil_of_length_eq_zero (by rw [hsrc.newsLen]; simp)
    subst hn0
    have hcl := hsrc.cells
    rw [← hsz, ← hisz] at hcl
    refine ⟨.slice base 0 0, w, ?_, ⟨rfl, rfl⟩, ?_⟩
    · have hl := hsrc.len w
      simp only [List.length_nil] at hl hcl
      rcases hsrc.kind with ⟨e', hk⟩ | hk <;> simp [Builtin.append_, run_underlying hu, run_underlying hk, sizeOf, typeInfo, hi, hl, hcl]
      all_goals (cases base <;> simp [storeCells])
    · have hm := ctx_new (j := j) (r := .arr t []) (l := ⟨0, 0, 0, true, base⟩) (h' := w.heap) hc hj (fun ho => by simp [owns] at ho) (Nat.le_refl _) (fun _ _ => rfl) (fun _ => .inl ⟨rfl, rfl⟩)
      exact ⟨_, hm.1, hm.2, by simp [slRel, modR, modL, hdl]⟩
  · have hx : Holds S w.heap t ([] : List t.den) (.slice base ([] : List t.den).length 0) := ⟨base, 0, rfl, by simp, .inl rfl⟩
    have hl : 0 < ys.length := List.length_pos_iff.2 h0
    have := append_grow (P := P) (ty := ty) (xs := ([] : List t.den)) hu hok hsz hc hj hx hy (by simp; exact hl) (by simpa using hb)
    simpa using this

theorem append_none {P : Program} {S} {t : Tc} {w : World} {uy : Value} {ty t1 t2 e : TypeId} {ei : TI}
    (hu : P.underlying t1 = some (.slice e)) (hok : OkTI P e ei) (hsz : ei.size = t.size) (hy : Gives P S t t2 uy [] w) (a : Option Addr) (n : Nat) :
    (Builtin.append_ #[t1, t2] ty #[.slice a n n, uy]).run P w = .ok (.slice a n n) w := by
  obtain ⟨news, hsrc, _⟩ := hy
  obtain ⟨i, hi, hisz, _⟩ := hok.info
  have hn0 : news = [] := List.eq_nil_of_length_eq_zero (by rw [hsrc.newsLen]; simp)
  subst hn0
  have hcl := hsrc.cells
  rw [← hsz, ← hisz] at hcl
  have hl := hsrc.len w
  simp only [List.length_nil] at hl hcl
  rcases hsrc.kind with ⟨e', hk⟩ | hk <;> simp [Builtin.append_, run_underlying hu, run_underlying hk, sizeOf, typeInfo, hi, hl, hcl]
  all_goals (cases a <;> simp [storeCells])

theorem append_ok {P : Program} {E : Env} (hE : EnvOk P E) {en : Ent} {loc S} {dst : Option Tmp} {t1 t2 : TypeId} {x y v : FV} {ux uy : Value} {ty : TypeId} {fr fr1 : Fr} {w : World}
    (h : (appendV E dst t1 t2 x y).go fr = some (v, fr1)) (hc : Ctx en fr.reg loc S w.heap) (hx : RelV (view fr.reg loc S w.heap) x ux) (hy : RelV (view fr.reg loc S w.heap) y uy) :
    fr1.slots = fr.slots ∧ ∃ u w1, (Builtin.append_ #[t1, t2] ty #[ux, uy]).run P w = .ok u w1 ∧ Sm w w1 ∧ Good en fr.reg loc S w.heap fr1.reg w1.heap v u := by
  unfold appendV at h
  replace h := go_popt h; obtain ⟨p, hp, h⟩ := h
  obtain ⟨tc, b⟩ := p
  obtain ⟨e, ei, hu, hok, htc, hbb, hsz, htop⟩ := elem_info hE hp
  simp only at h
  replace h := Pr.go_bind_some h; obtain ⟨ys, fr2, hys, h⟩ := h
  obtain ⟨rfl, hhy⟩ := srcV_ok hE hys hc.core hy
  subst hbb
  cases x
  case nil0 =>
    replace h := go_guard h; obtain ⟨hg, h⟩ := h
    obtain ⟨h1, rfl, rfl⟩ := newReg_go h
    simp at hg
    obtain ⟨a0, rfl⟩ := hx
    obtain ⟨u, w1, r1, rsm, loc1, m1, m2, m3⟩ := append_nil0 (P := P) (ty := ty) hu hok hsz hc h1 hhy hg
    refine ⟨rfl, u, w1, r1, rsm, ?_⟩
    rw [setR_mod]
    exact ⟨loc1, S, m1, m2, m3⟩
  case slc k =>
    have hx' : slRel fr2.reg loc S w.heap k ux := hx
    cases hk : fr2.reg k
    case arr t' xs =>
      simp only [Pr.go, hk] at h
      split at h
      case isFalse => exact (go_fail h).elim
      rename_i ett; subst ett
      replace h := go_guard h; obtain ⟨hg, h⟩ := h
      simp only [Pr.go] at h
      obtain ⟨h1, rfl, rfl⟩ := newReg_go h
      simp at hg
      have hne : siteOf dst ≠ k := by
        intro e; rw [e, Fr.reg_setR] at h1; simp at h1
      have h1' : fr2.reg (siteOf dst) = .abs := by rw [Fr.reg_setR, if_neg (Ne.symm hne)] at h1; exact h1
      simp only [slRel, hk] at hx'; subst hx'
      have hreg := hc.core.reg k
      rw [hk] at hreg
      obtain ⟨k1, k2⟩ := ctx_kill (k := k) hc
      have hkr : (fun i => if i = k then Reg.dead else fr2.reg i) = (fr2.setR k .dead).reg := by rw [setR_reg]
      rw [hkr] at k1 k2
      have hrg : ((fr2.setR k .dead).setR (siteOf dst) (.arr t' (xs ++ ys))).reg = modR fr2.reg k (siteOf dst) (.arr t' (xs ++ ys)) := by
        funext i; rw [Fr.reg_setR, Fr.reg_setR]; simp only [modR, eq_comm (a := i)]
      rcases hreg with ⟨hn, rfl⟩ | ⟨hnil, c, ce, hb, q1, q2, q3⟩
      · -- onto nil
        obtain ⟨u, w1, r1, rsm, loc1, m1, m2, m3⟩ := append_nil0 (P := P) (ty := ty) hu hok hsz k1 h1 hhy (by simpa using hg)
        refine ⟨rfl, u, w1, by simpa [hdl, hn] using r1, rsm, ?_⟩
        rw [setR_mod]
        exact ⟨loc1, S, m1, Vw.le_trans k2 m2, m3⟩
      · have hb2 : w.heap[(loc k).blk]? = some (.cells c ce (0, 0)) := hb
        have hhd : hdl (loc k) xs.length = .slice (some ⟨(loc k).blk, (loc k).off, none⟩) xs.length (loc k).cap := by simp [hdl, hnil]
        rw [hhd]
        have hrow : Row S w.heap t' xs c.toList (loc k).off := fun i x hi => by
          obtain ⟨ecs, g1, g2⟩ := q3 i x hi
          exact ⟨ecs, g1, fun j u hu => by rw [Array.getElem?_toList]; exact g2 j u hu⟩
        have hmulc : xs.length * t'.size ≤ (loc k).cap * t'.size := Nat.mul_le_mul_right _ q1
        by_cases hroom : xs.length + ys.length ≤ (loc k).cap
        · -- there is room
          obtain ⟨i, hi, hisz, _⟩ := hok.info
          have hisz' : i.size = t'.size := by omega
          obtain ⟨news, hsrc, hnr⟩ := hhy
          have hnl := hsrc.newsLen
          rw [← hisz'] at hsrc
          have hmul2 : xs.length * t'.size + ys.length * t'.size ≤ (loc k).cap * t'.size := by rw [← Nat.add_mul]; exact Nat.mul_le_mul_right _ hroom
          have hfit : (loc k).off + xs.length * t'.size + news.length ≤ c.size := by omega
          have hrun := run_append_room_src (P := P) w t1 t2 ty e i hu hi (loc k).blk (loc k).off xs.length (loc k).cap uy ys.length news hsrc hroom (fun j hj => by
              rw [cell_at, cell_blk hb2, hisz']
              have : (loc k).off + xs.length * t'.size + j < c.size := by omega
              simp only [Array.getElem?_eq_getElem this, Option.isSome_some]) (fun j hj => by simp [World.frozen?, hb2])
          rw [hisz'] at hrun
          obtain ⟨g1, g2, g3⟩ := setCells_heap (loc k).blk news ((loc k).off + xs.length * t'.size) w c ce (0, 0) hb2
          refine ⟨rfl, _, _, hrun, ⟨World.os_setCells _ _ _ _, World.output_setCells _ _ _ _⟩, ?_⟩
          have hm := ctx_mod (h' := (w.setCells (loc k).blk ((loc k).off + xs.length * t'.size) news).heap) (k := k) (j := siteOf dst) (r := .arr t' (xs ++ ys)) (l := loc k) hc (by rw [hk]; exact hnil) (.inr h1')
            (fun _ => rfl) g1 g2 (fun e => absurd e hne) (fun e => absurd e hne) (fun e => absurd e hne) (fun e => absurd e hne)
            (fun hle => by
              refine .inr ⟨hnil, _, ce, g3, by simpa using hroom, by rw [putL_size]; exact q2, fun i x hi => ?_⟩
              have hall : Row S w.heap t' (xs ++ ys) (putL c ((loc k).off + xs.length * t'.size) news).toList (loc k).off := by
                refine Row_append (Row_shift hrow fun q hq => ?_) (Row_shift hnr fun q hq => ?_)
                · rw [Array.getElem?_toList, Array.getElem?_toList, putL_get _ _ _ _ hfit, if_neg (by omega)]
                · refine Eq.symm ?_
                  rw [Array.getElem?_toList, putL_get _ _ _ _ hfit, if_pos (by omega), Nat.zero_add]
                  congr 1; omega
              obtain ⟨ecs, e1, e2⟩ := hall i x hi
              refine ⟨ecs, RelD_mono hle.S _ _ _ e1, fun j u hu => ?_⟩
              rw [← Array.getElem?_toList]; exact e2 j u hu)
          rw [hrg]
          refine ⟨_, S, hm.1, hm.2, ?_⟩
          show slRel _ _ _ _ _ _
          simp [slRel, modR, modL, hdl, hnil]
        · -- there is none
          have hhx : Holds S w.heap t' xs (.slice (some ⟨(loc k).blk, (loc k).off, none⟩) xs.length (loc k).cap) :=
            ⟨_, _, rfl, q1, .inr ⟨_, c, ce, (0, 0), rfl, rfl, hb2, by simp only; omega, hrow⟩⟩
          obtain ⟨u, w1, r1, rsm, loc1, m1, m2, m3⟩ := append_grow (P := P) (ty := ty) hu hok hsz k1 h1 hhx hhy (by omega) hg
          refine ⟨rfl, u, w1, r1, rsm, ?_⟩
          rw [setR_mod]
          exact ⟨loc1, S, m1, Vw.le_trans k2 m2, m3⟩
    all_goals simp [Pr.go, hk] at h
  case ep k i o =>
    have hmk : o = fullMark := by
      apply Decidable.byContradiction; intro hmk
      simp only [hmk, if_false] at h; exact (go_fail h).elim
    subst hmk
    simp only [if_true] at h
    cases hk : fr2.reg k
    case' frz t' xs => skip
    all_goals simp only [Pr.go, hk] at h
    all_goals first | (simp [Pr.go] at h; done) | skip
    split at h
    case isFalse => exact (go_fail h).elim
    rename_i ett; subst ett
    replace h := go_guard h; obtain ⟨hg, h⟩ := h
    have hel : elRel fr2.reg loc S w.heap k i fullMark ux := hx
    simp only [elRel, hk] at hel
    obtain ⟨hD, a, n, rfl⟩ := hel trivial
    have hH := holds_relD hD
    have hn : n = (xs.drop i).length := by
      obtain ⟨a', cap', e1, _⟩ := hD
      simp at e1
      simpa using e1.2.1
    subst hn
    simp only [decide_eq_true_eq] at hg
    simp only [Pr.go] at h
    cases hz : ys.isEmpty
    · rw [hz] at h
      rw [if_neg (by simp)] at h
      obtain ⟨h1, rfl, rfl⟩ := newReg_go h
      have hy0 : 0 < ys.length := by
        cases ys with
        | nil => simp at hz
        | cons => simp
      obtain ⟨u, w1, r1, rsm, loc1, m1, m2, m3⟩ := append_grow (P := P) (ty := ty) hu hok hsz hc h1 hH hhy (by omega) hg
      refine ⟨rfl, u, w1, r1, rsm, ?_⟩
      rw [setR_mod]
      exact ⟨loc1, S, m1, m2, m3⟩
    · rw [hz, if_pos rfl] at h
      simp only [Option.some.injEq, Prod.mk.injEq] at h
      obtain ⟨rfl, rfl⟩ := h
      obtain rfl : ys = [] := by simpa using hz
      exact ⟨rfl, _, w, append_none (P := P) (ty := ty) hu hok hsz hhy a _, ⟨rfl, rfl⟩, good_same hc hD⟩
  all_goals exact (go_fail h).elim


theorem takeAt_frz {t : Tc} {k : Nat} {fr fr1 : Fr} {xs : List t.den} (hg : (takeAt true t k).go fr = some (xs, fr1)) : fr1.reg k = .frz t xs := by
  simp only [takeAt, Pr.go] at hg
  cases hk : fr.reg k with
  | arr t' ys =>
    simp only [hk] at hg
    split at hg
    · rename_i e; subst e
      simp only [if_true, Pr.go, Option.some.injEq, Prod.mk.injEq] at hg
      obtain ⟨rfl, rfl⟩ := hg
      rw [Fr.reg_setR, if_pos rfl]
    · exact (go_fail hg).elim
  | frz t' ys =>
    simp only [hk] at hg
    split at hg
    · rename_i e; subst e
      obtain ⟨rfl, rfl⟩ := go_ret hg
      exact hk
    · exact (go_fail hg).elim
  | _ => simp [hk, Pr.go] at hg

theorem RelD_drop {S h} {t : Tc} {xs : List t.den} {a : Option Addr} {cap n : Nat} {i sz : Nat} (hs : sz = t.size) (hi : i ≤ xs.length) (hr : RelD S h (.slice t) xs [.slice a n cap]) :
    RelD S h (.slice t) (xs.drop i) [.slice (if xs.length = i then a else a.map (·.add (i * sz))) (xs.length - i) (xs.length - i)] := by
  subst hs
  obtain ⟨a', cap', e, hc, hel⟩ := hr
  simp at e
  obtain ⟨rfl, rfl, rfl⟩ := e
  refine ⟨_, _, by rw [List.length_drop], by simp, fun j x hj => ?_⟩
  rw [List.getElem?_drop] at hj
  have hlt : i + j < xs.length := (List.getElem?_eq_some_iff.1 hj).1
  obtain ⟨ad, rfl, h1, h2, ecs, g1, g2⟩ := hel _ _ hj
  rw [if_neg (by omega)]
  rcases ad with ⟨bb, oo, sp⟩
  simp only at h1
  subst h1
  refine ⟨⟨bb, oo + i * t.size, none⟩, by simp [add_off], rfl, h2, ecs, g1, fun q u hu => ?_⟩
  have := g2 q u hu
  simp only
  rw [Nat.add_assoc oo, ← Nat.add_mul]; exact this

theorem RelD_cut {S h} {t : Tc} {xs : List t.den} {a : Option Addr} {cap : Nat} (hr : RelD S h (.slice t) xs [.slice a xs.length cap]) (hh m : Nat) (h1 : hh ≤ m) (h2 : hh ≤ xs.length) :
    RelD S h (.slice t) (xs.take hh) [.slice (if m = 0 then a else a.map (·.add (0 * t.size))) (hh - 0) (m - 0)] := by
  obtain ⟨a', cap', e, hc, hx⟩ := hr
  simp at e
  obtain ⟨rfl, rfl⟩ := e
  have hlen : (xs.take hh).length = hh := by simp; omega
  refine ⟨_, m - 0, by rw [hlen]; rfl, by rw [hlen]; omega, fun i x hi => ?_⟩
  have hi' : i < hh := by rw [← hlen]; exact (List.getElem?_eq_some_iff.1 hi).1
  have hx' : xs[i]? = some x := by
    rw [List.getElem?_take, if_pos hi'] at hi; exact hi
  obtain ⟨ad, rfl, hsp, hS, ecs, g1, g2⟩ := hx _ _ hx'
  rw [if_neg (by omega)]
  have q1 : ad.add (0 * t.size) = ad := by rw [Nat.zero_mul]; exact if_pos rfl
  refine ⟨ad, by rw [Option.map_some, q1], hsp, hS, ecs, g1, g2⟩

theorem cut_ok {P : Program} {E : Env} (hE : EnvOk P E) {en : Ent} {loc S} {t : TypeId} {x v hi mx : FV} {ux uh um : Value} {fr fr1 : Fr} {w : World}
    (h : (cutV E t x hi mx).go fr = some (v, fr1)) (hc : Ctx en fr.reg loc S w.heap) (hx : RelV (view fr.reg loc S w.heap) x ux) (hhi : RelV (view fr.reg loc S w.heap) hi uh) (hmx : RelV (view fr.reg loc S w.heap) mx um) :
    fr1.slots = fr.slots ∧ ∃ u, (Instr.sliceAt t ux none (some uh) (some um)).run P w = .ok u w ∧ Good en fr.reg loc S w.heap fr1.reg w.heap v u := by
  unfold cutV at h
  replace h := go_popt h; obtain ⟨p, hp, h⟩ := h
  obtain ⟨tc, b⟩ := p
  obtain ⟨e, ei, hu, hok, htc, _, hsz, htop⟩ := elem_info hE hp
  replace h := Pr.go_bind_some h; obtain ⟨s, fr2, hs, h⟩ := h
  obtain ⟨g0, S1, g1, g2, g3⟩ := closeD_ok hs hc hx
  replace h := Pr.go_bind_some h; obtain ⟨hh, fr3, hhh, h⟩ := h
  obtain ⟨rfl, k1, rfl⟩ := asI_ok hhh hhi
  replace h := Pr.go_bind_some h; obtain ⟨m, fr4, hm, h⟩ := h
  obtain ⟨rfl, k2, rfl⟩ := asI_ok hm hmx
  replace h := go_guard h; obtain ⟨h1, h⟩ := h
  replace h := go_guard h; obtain ⟨h2, h⟩ := h
  replace h := go_guard h; obtain ⟨h3, h⟩ := h
  obtain ⟨rfl, rfl⟩ := go_ret h
  simp only [decide_eq_true_eq] at h1 h2 h3
  have g3' := g3
  obtain ⟨a, cap, e1, e2, e3⟩ := g3
  simp at e1; subst e1
  have hb : (Instr.sliceBounds true s.length cap none (some (.int k1 hh)) (some (.int k2 m))).run P w = .ok (0, hh.toNat, m.toNat) w := by
    simp [Instr.sliceBounds, bound_run (show (0 : Int) ≤ m by omega) (show m ≤ (cap : Int) by omega), bound_run h1 (show hh ≤ ((m.toNat : Nat) : Int) by omega)]
  refine ⟨g0, _, ?_, loc, S1, g1, g2, RelD_cut g3' hh.toNat m.toNat (by omega) (by omega)⟩
  simp [Instr.sliceAt, run_underlying hu, Instr.slice, hb, size_run hok, hsz]

theorem full_ok {P : Program} {E : Env} (hE : EnvOk P E) {en : Ent} {loc S} {t : TypeId} {x v mx : FV} {lo hi : Option FV} {ux um : Value} {ulo uhi : Option Value} {fr fr1 : Fr} {w : World}
    (h : (fullV E t x lo hi mx).go fr = some (v, fr1)) (hc : Ctx en fr.reg loc S w.heap) (hx : RelV (view fr.reg loc S w.heap) x ux)
    (hlo : (lo = none ∧ ulo = none) ∨ ∃ x y, lo = some x ∧ ulo = some y ∧ RelV (view fr.reg loc S w.heap) x y)
    (hhi : ∃ x y, hi = some x ∧ uhi = some y ∧ RelV (view fr.reg loc S w.heap) x y)
    (hmx : RelV (view fr.reg loc S w.heap) mx um) :
    fr1.slots = fr.slots ∧ ∃ u, (Instr.sliceAt t ux ulo uhi (some um)).run P w = .ok u w ∧ Good en fr.reg loc S w.heap fr1.reg w.heap v u := by
  cases x
  case slc k =>
    simp only [fullV] at h
    replace h := go_popt h; obtain ⟨p, hp, h⟩ := h
    obtain ⟨tc, b⟩ := p
    obtain ⟨e, ei, hu, hok, htc, _, hsz, htop⟩ := elem_info hE hp
    simp only at h
    replace h := Pr.go_bind_some h; obtain ⟨s, fr2, hs, h⟩ := h
    obtain ⟨hs0, S1, hc1, hle1, hD⟩ := takeAt_ok hs hc hx
    have hfz := takeAt_frz hs
    replace h := Pr.go_bind_some h; obtain ⟨m, fr3, h1, h⟩ := h
    obtain ⟨rfl, k1, rfl⟩ := asI_ok h1 hmx
    replace h := Pr.go_bind_some h; obtain ⟨hh, fr4, hhh, h⟩ := h
    obtain ⟨rfl, hh'⟩ := optI_ok (V := view fr.reg loc S w.heap) hhh uhi (.inr hhi)
    replace h := Pr.go_bind_some h; obtain ⟨ll, fr5, hll, h⟩ := h
    obtain ⟨rfl, hl'⟩ := optI_ok (V := view fr.reg loc S w.heap) hll ulo hlo
    replace h := go_guard h; obtain ⟨q1, h⟩ := h
    replace h := go_guard h; obtain ⟨q2, h⟩ := h
    replace h := go_guard h; obtain ⟨q3, h⟩ := h
    replace h := go_guard h; obtain ⟨q4, h⟩ := h
    obtain ⟨rfl, rfl⟩ := go_ret h
    simp only [decide_eq_true_eq] at q1 q2 q3 q4
    subst q1; subst q2
    obtain ⟨a, cap, e1, hcap, hel⟩ := id hD
    simp at e1; subst e1
    obtain ⟨x0, y0, _, rfl, _⟩ := hhi
    obtain ⟨k2, rfl⟩ : ∃ k2, y0 = .int k2 s.length := by
      rcases hh' with ⟨e, _⟩ | ⟨k2, e⟩
      · cases e
      · exact ⟨k2, by simpa using e⟩
    have hb : (Instr.sliceBounds true s.length cap ulo (some (.int k2 s.length)) (some (.int k1 s.length))).run P w = .ok (ll.toNat, s.length, s.length) w := by
      rcases hl' with ⟨rfl, rfl⟩ | ⟨k3, rfl⟩
      · simp [Instr.sliceBounds, bound_run (show (0 : Int) ≤ (s.length : Int) by omega) (Int.ofNat_le.2 hcap), bound_run (show (0 : Int) ≤ (s.length : Int) by omega) (Int.le_refl _)]
      · simp [Instr.sliceBounds, bound_run (show (0 : Int) ≤ (s.length : Int) by omega) (Int.ofNat_le.2 hcap), bound_run (show (0 : Int) ≤ (s.length : Int) by omega) (Int.le_refl _), bound_run q3 q4]
    refine ⟨hs0, _, by simp [Instr.sliceAt, run_underlying hu, Instr.slice, hb, size_run hok]; rfl, loc, S1, hc1, hle1, ?_⟩
    show elRel _ loc S1 w.heap k ll.toNat fullMark _
    simp only [elRel, hfz]
    intro _
    exact ⟨RelD_drop hsz (by omega) hD, _, _, rfl⟩
  all_goals exact (go_fail h).elim

/-! ### the slice from an element on, and clear -/
theorem suf_ok {P : Program} {E : Env} (hE : EnvOk P E) {en : Ent} {loc S} {t : TypeId} {x v : FV} {lo hi : Option FV} {ux : Value} {ulo uhi : Option Value} {fr fr1 : Fr} {w : World}
    (h : (sufV E t x lo hi).go fr = some (v, fr1)) (hc : Ctx en fr.reg loc S w.heap) (hx : RelV (view fr.reg loc S w.heap) x ux)
    (hlo : (lo = none ∧ ulo = none) ∨ ∃ x y, lo = some x ∧ ulo = some y ∧ RelV (view fr.reg loc S w.heap) x y)
    (hhi : (hi = none ∧ uhi = none) ∨ ∃ x y, hi = some x ∧ uhi = some y ∧ RelV (view fr.reg loc S w.heap) x y) :
    fr1.slots = fr.slots ∧ ∃ u, (Instr.sliceAt t ux ulo uhi none).run P w = .ok u w ∧ Good en fr.reg loc S w.heap fr1.reg w.heap v u := by
  cases hi
  case some => exact (go_fail h).elim
  cases x
  case slc k =>
    simp only [sufV] at h
    replace h := go_popt h; obtain ⟨p, hp, h⟩ := h
    obtain ⟨tc, b⟩ := p
    obtain ⟨e, ei, hu, hok, htc, _, hsz, htop⟩ := elem_info hE hp
    cases hk : fr.reg k
    case' arr t' s => skip
    all_goals simp only [Pr.go, hk] at h
    all_goals first | (simp [Pr.go] at h; done) | skip
    split at h
    · rename_i ett; subst ett
      replace h := Pr.go_bind_some h; obtain ⟨hh, fr3, hhh, h⟩ := h
      obtain ⟨rfl, hh'⟩ := optI_ok (V := view fr.reg loc S w.heap) hhh uhi hhi
      have e0 : hh = (s.length : Int) := by
        simp only [optI] at hhh
        exact ((go_ret hhh).1).symm
      subst e0
      replace h := Pr.go_bind_some h; obtain ⟨ll, fr4, hll, h⟩ := h
      obtain ⟨rfl, hl'⟩ := optI_ok (V := view fr3.reg loc S w.heap) hll ulo hlo
      replace h := go_guard h; obtain ⟨h1, h⟩ := h
      replace h := go_guard h; obtain ⟨h2, h⟩ := h
      obtain ⟨rfl, rfl⟩ := go_ret h
      simp at h1 h2
      have hux : ux = hdl (loc k) s.length := by
        have : slRel _ loc S w.heap k ux := hx
        simpa [slRel, hk] using this
      subst hux
      have hreg := hc.core.reg k
      rw [hk] at hreg
      refine ⟨rfl, ?_⟩
      rcases hreg with ⟨hn, rfl⟩ | ⟨hnil, c, ce, hb, q1, q2, q3⟩
      · simp at h2; omega
      · have hbr := bounds_run (P := P) (w := w) true s.length (loc k).cap q1 ulo uhi ll s.length hh' hl' h1 (by omega) (by omega)
        have hne : ¬ (loc k).cap = ll.toNat := by omega
        refine ⟨_, by simp [hdl, hnil, Instr.sliceAt, run_underlying hu, Instr.slice, hbr, size_run hok]; rfl, good_same hc ?_⟩
        show elRel _ loc S w.heap k ll.toNat sufMark _
        simp only [elRel, hk]
        refine ⟨by decide, fun _ => ?_⟩
        unfold ElOK
        rw [if_pos rfl]
        simp [hne, add_off, hsz]
    · exact (go_fail h).elim
  all_goals exact (go_fail h).elim

theorem clear_ok {P : Program} {E : Env} (hE : EnvOk P E) {en : Ent} {loc S} {t : TypeId} {x v : FV} {ux : Value} {ty : TypeId} {fr fr1 : Fr} {w : World}
    (h : (clearV E t x).go fr = some (v, fr1)) (hc : Ctx en fr.reg loc S w.heap) (hx : RelV (view fr.reg loc S w.heap) x ux) :
    fr1.slots = fr.slots ∧ ∃ u w1, (Builtin.clear_ #[t] ty #[ux]).run P w = .ok u w1 ∧ Sm w w1 ∧ Good en fr.reg loc S w.heap fr1.reg w1.heap v u := by
  unfold clearV at h
  replace h := go_popt h; obtain ⟨p, hp, h⟩ := h
  obtain ⟨tc, b⟩ := p
  obtain ⟨e, ei, hu, hok, htc, hbb, hsz, htop⟩ := elem_info hE hp
  cases x
  case ep k i o =>
    simp only at h
    split at h
    case isFalse => exact (go_fail h).elim
    rename_i hmk; subst hmk
    cases hk : fr.reg k
    case' arr t' xs => skip
    all_goals simp only [Pr.go, hk] at h
    all_goals first | (simp [Pr.go] at h; done) | skip
    split at h
    case isFalse => exact (go_fail h).elim
    rename_i ett; subst ett
    replace h := go_guard h; obtain ⟨hi, h⟩ := h
    simp [Pr.go] at h
    obtain ⟨rfl, rfl⟩ := h
    simp at hi
    have hreg := hc.core.reg k
    rw [hk] at hreg
    rcases hreg with ⟨_, hx0⟩ | ⟨hnil, c, ce, hb, q1, q2, q3⟩
    · subst hx0; simp at hi
    have hb2 : w.heap[(loc k).blk]? = some (.cells c ce (0, 0)) := hb
    obtain ⟨cc, rfl⟩ : ∃ cc, ux = .slice (some ⟨(loc k).blk, (loc k).off + i * t'.size, none⟩) (xs.length - i) cc := by
      have : elRel fr.reg loc S w.heap k i sufMark ux := hx
      simp only [elRel, hk] at this
      have := this.2 hnil
      unfold ElOK at this
      rwa [if_pos rfl] at this
    obtain ⟨inf, hinf, hisz, hib, z, hz, _, hzsz, hdz⟩ := hok.info
    have hzd := hdz t' htc
    have hz2 : z.cells = (dz t').toArray := by apply Array.ext'; rw [← hzd]
    have hzl : (dz t').length = t'.size := RelD_len t' _ _ (dz_rel S w.heap t')
    let n := xs.length - i
    let news := (Builtin.zeroCells z.cells n).toList
    have hnl : news.length = n * t'.size := by simp [news, Builtin.zeroCells, hz2, hzl]
    have hmulc : i * t'.size + n * t'.size ≤ (loc k).cap * t'.size := by
      rw [← Nat.add_mul]; exact Nat.mul_le_mul_right _ (by omega)
    have hfit : (loc k).off + i * t'.size + news.length ≤ c.size := by omega
    have hone : ∀ u ∈ news, u.oneCell' = true := by
      intro u hu
      have hpos : 0 < t'.size := by have := hok.pos; omega
      simp only [news, Builtin.zeroCells, Array.toList_map, List.mem_map] at hu
      obtain ⟨q, _, rfl⟩ := hu
      have hlt : q % z.cells.size < (dz t').length := by rw [hz2]; simp; exact Nat.mod_lt _ (by omega)
      have hm : z.cells[q % z.cells.size]! ∈ dz t' := by
        rw [hz2] at hlt ⊢
        simp only [List.size_toArray] at hlt ⊢
        rw [getElem!_pos (dz t').toArray _ (by simpa using hlt)]
        simp
      exact RelD_one t' _ _ (dz_rel S w.heap t') _ hm
    have hst := run_storeCells_cells (P := P) (loc k).blk ((loc k).off + i * t'.size) news 0 w (fun j hj => by
      rw [cell_at, cell_blk hb2]
      have : (loc k).off + i * t'.size + 0 + j < c.size := by omega
      simp only [Array.getElem?_eq_getElem this, Option.isSome_some]) (fun j hj => by simp [World.frozen?, hb2]) hone
    simp only [Nat.add_zero] at hst
    refine ⟨rfl, .tuple #[], w.setCells (loc k).blk ((loc k).off + i * t'.size) news, ?_, ⟨World.os_setCells _ _ _ _, World.output_setCells _ _ _ _⟩, ?_⟩
    · obtain ⟨m, hm⟩ : ∃ m, xs.length - i = m + 1 := ⟨xs.length - i - 1, by omega⟩
      have hst' := hst
      simp only [news, n, hm] at hst'
      simp [Builtin.clear_, run_underlying hu, hm, zeroValue, typeInfo, hinf, hz, hst', news, n]
    · obtain ⟨g1, g2, g3⟩ := setCells_heap (loc k).blk news ((loc k).off + i * t'.size) w c ce (0, 0) hb2
      have hlen : (xs.take i ++ List.replicate (xs.length - i) t'.dflt).length = xs.length := by simp; omega
      have hrow : Row S w.heap t' (xs.take i) c.toList (loc k).off := fun j x hj => by
        rw [List.getElem?_take] at hj
        split at hj
        · obtain ⟨ecs, g1, g2⟩ := q3 j x hj
          exact ⟨ecs, g1, fun q u hu => by rw [Array.getElem?_toList]; exact g2 q u hu⟩
        · cases hj
      have hnr : Row S w.heap t' (List.replicate n t'.dflt) news 0 := by
        have := zeros_row (S := S) (h := w.heap) (t := t') n
        have e : news = ((Array.range (n * t'.size)).map fun i => (dz t').toArray[i % (dz t').toArray.size]!).toList := by
          simp only [news, Builtin.zeroCells, hz2, List.size_toArray, hzl]
        rw [e]; exact this
      have hm := ctx_mod (h' := (w.setCells (loc k).blk ((loc k).off + i * t'.size) news).heap) (k := k) (j := k) (r := .arr t' (xs.take i ++ List.replicate (xs.length - i) t'.dflt)) (l := loc k) hc
        (by rw [hk]; exact hnil) (.inl rfl) (fun _ => rfl) g1 g2
        (fun _ v hv => by
          simp only [slRel, hk] at hv
          simp only [slRel, modR, if_true, modL, hlen]; exact hv) (fun _ o v hv => by simp [ptRel, modR])
        (fun _ i o v hv => by
          simp only [elRel, hk] at hv
          simp only [elRel, modR, if_true, modL, hlen]; exact hv) (fun _ v hv => by simp [mpRel, modR])
        (fun hle => by
          refine .inr ⟨hnil, _, ce, g3, by rw [hlen]; exact q1, by rw [putL_size]; exact q2, fun q x hq => ?_⟩
          have hti : (xs.take i).length = i := by simp; omega
          have hall : Row S w.heap t' (xs.take i ++ List.replicate n t'.dflt) (putL c ((loc k).off + i * t'.size) news).toList (loc k).off := by
            refine Row_append (Row_shift hrow fun q hq => ?_) (Row_shift hnr fun q hq => ?_)
            · rw [hti] at hq
              rw [Array.getElem?_toList, Array.getElem?_toList, putL_get _ _ _ _ hfit, if_neg (by omega)]
            · rw [List.length_replicate] at hq
              refine Eq.symm ?_
              rw [hti, Array.getElem?_toList, putL_get _ _ _ _ hfit, if_pos (by omega), Nat.zero_add]
              congr 1; omega
          obtain ⟨ecs, e1, e2⟩ := hall q x hq
          refine ⟨ecs, RelD_mono hle.S _ _ _ e1, fun j u hu => ?_⟩
          rw [← Array.getElem?_toList]; exact e2 j u hu)
      rw [modL_self, ← setR_mod] at hm
      exact ⟨loc, S, hm.1, hm.2, ⟨[], rfl, rfl⟩⟩
  all_goals exact (go_fail h).elim

/-! ### maps -/
theorem mapTc_info {P : Program} {E : Env} (hE : EnvOk P E) {t : TypeId} {tk tv : Tc} (h : mapTc E t = some (tk, tv)) :
    ∃ kt vt i z, P.underlying t = some (.map kt vt) ∧ KeyOK P kt tk ∧ P.info? vt = some i ∧ i.zero = some z ∧ (∀ S h, RelVal S h tv tv.dflt z) ∧ ∀ s, tv = .slice s → ∃ a, z = .slice a 0 0 := by
  unfold mapTc at h
  cases h0 : E.tt t with
  | none => rw [h0] at h; cases h
  | some ti =>
  rw [h0] at h; simp only [Option.bind_some] at h
  cases h1 : ti.mpt with
  | none => rw [h1] at h; cases h
  | some p =>
  rw [h1] at h; simp only [Option.bind_some] at h
  cases h2 : E.tt p.1 with
  | none => rw [h2] at h; cases h
  | some ki =>
  rw [h2] at h; simp only [Option.bind_some] at h
  cases h3 : E.tt p.2 with
  | none => rw [h3] at h; cases h
  | some vi =>
  rw [h3] at h; simp only [Option.bind_some] at h
  cases h4 : ki.tc with
  | none => rw [h4] at h; cases h
  | some tk' =>
  rw [h4] at h; simp only [Option.bind_some] at h
  cases h5 : vi.tc with
  | none => rw [h5] at h; cases h
  | some tv' =>
  rw [h5] at h; simp only [Option.bind_some] at h
  cases h6 : keyTc ki.eq tk' with
  | false => rw [h6] at h; cases h
  | true =>
  rw [h6] at h; simp only [cond_true, Option.some.injEq, Prod.mk.injEq] at h
  obtain ⟨rfl, rfl⟩ := h
  have ho := hE.tts _ _ h0
  have hk := hE.tts _ _ h2
  have hv := hE.tts _ _ h3
  have hkq := hk.eqs tk' h4
  have hktop := (hk.tcs tk' h4).2.2
  obtain ⟨d, hd, _, _, _, d1, d2, _⟩ := hk.und
  obtain ⟨i, hi, _, _, z, hz, _, _, hdz⟩ := hv.info
  have hzok := hv.zok i z tv' hi hz h5
  refine ⟨p.1, p.2, i, z, ho.mps _ _ h1, ?_, hi, hz, fun S h => ?_, ?_⟩
  · cases tk' <;> simp [keyTc] at h6
    · exact ⟨rfl, rfl, d, hd, .inl ⟨_, rfl, d1 _ h4⟩⟩
    · exact ⟨rfl, rfl, d, hd, .inr (.inl ⟨rfl, d2 h4⟩)⟩
    · rename_i c
      have he := (hkq h6.1).1
      refine ⟨h6.2, rfl, d, hd, .inr (.inr ⟨⟨c, rfl⟩, ?_, he⟩)⟩
      unfold eqOk at he
      rw [hd] at he
      cases d <;> simp at he
      exact ⟨_, rfl⟩
  · have hr := RelVal_of_cells (hv.tcs _ h5).2.2 (dz_rel S h tv')
    have hc := hdz _ h5
    have : (if tv'.isSt then .agg (dz tv').toArray else (dz tv').headD undef) = z := by
      cases z <;> simp only [zokB, Bool.not_eq_true'] at hzok <;> simp only [Value.cells] at hc <;> rw [hc] <;> simp [hzok]
    rw [this] at hr
    exact hr
  · rintro s rfl
    have hc : dz (.slice s) = z.cells.toList := hdz _ h5
    cases z <;> simp [zokB, Tc.isSt] at hzok <;> simp [dz, Value.cells] at hc
    obtain ⟨rfl, rfl, rfl⟩ := hc
    exact ⟨_, rfl⟩

theorem RelE_mem {S h} {tk tv : Tc} : ∀ (l : List (tk.den × tv.den)) (es : List MapEntry), RelE S h tk tv l es → ∀ e ∈ es, ∃ y : tk.den, RelVal S h tk y e.key
  | [], _, hr, e, he => by cases hr; cases he
  | p :: l, _, ⟨e0, es, rfl, h1, h2, h3⟩, e, he => by
    rcases List.mem_cons.1 he with rfl | he
    · exact ⟨_, h1⟩
    · exact RelE_mem l es h3 e he

theorem RelE_miss {P : Program} {kt : TypeId} {S h} {tk tv : Tc} (hk : KeyOK P kt tk) {S' h'} {x : tk.den} {v : Value} (hx : RelVal S' h' tk x v) : ∀ (l : List (tk.den × tv.den)) (es : List MapEntry), RelE S h tk tv l es → (∀ e ∈ es, e.key ≠ v) →
    mapFind tk tv x l = none ∧ mapDel tk tv x l = l ∧ ∀ y u b, RelVal S h tk x v → RelVal S h tv y u → RelE S h tk tv (mapPut tk tv x y l) (es ++ [⟨v, u, b⟩])
  | [], _, hr, _ => by cases hr; exact ⟨rfl, rfl, fun y u b h1 hy => ⟨_, _, rfl, h1, hy, rfl⟩⟩
  | p :: l, _, ⟨e, es, rfl, h1, h2, h3⟩, hn => by
    have hf : tk.beq p.1 x = false := by
      cases hq : tk.beq p.1 x with
      | false => rfl
      | true => exact absurd ((key_beq hk hx h1).1 hq) (hn e (.head _))
    obtain ⟨a1, a2, a3⟩ := RelE_miss hk hx l es h3 fun e he => hn e (.tail _ he)
    refine ⟨by simp only [mapFind, hf, cond_false, a1], by simp only [mapDel, hf, cond_false, a2], fun y u b g1 hy => ?_⟩
    simp only [mapPut, hf, cond_false, List.cons_append]
    exact ⟨_, _, rfl, h1, h2, a3 y u b g1 hy⟩

theorem RelE_hit {P : Program} {kt : TypeId} {S h} {tk tv : Tc} (hk : KeyOK P kt tk) {S' h'} {x : tk.den} {v : Value} (hx : RelVal S' h' tk x v) : ∀ (l : List (tk.den × tv.den)) (es : List MapEntry), RelE S h tk tv l es →
    ∀ j e, es[j]? = some e → e.key = v → (∀ i e', i < j → es[i]? = some e' → e'.key ≠ v) →
      (∃ y, mapFind tk tv x l = some y ∧ RelVal S h tv y e.val) ∧ RelE S h tk tv (mapDel tk tv x l) (es.eraseIdx j) ∧ ∀ y u, RelVal S h tk x v → RelVal S h tv y u → RelE S h tk tv (mapPut tk tv x y l) (es.set j { e with key := v, val := u })
  | [], _, hr, j, e, hj, _, _ => by cases hr; simp at hj
  | p :: l, _, ⟨e0, es, rfl, h1, h2, h3⟩, j, e, hj, hek, hmin => by
    have hb := key_beq hk hx h1
    cases j with
    | zero =>
      simp at hj; subst hj
      refine ⟨⟨p.2, by simp [mapFind, hb.2 hek], h2⟩, ?_, fun y u g1 hy => ?_⟩
      · simp only [mapDel, hb.2 hek, cond_true, List.eraseIdx_cons_zero]; exact h3
      · simp only [mapPut, hb.2 hek, cond_true, List.set_cons_zero]
        exact ⟨_, _, rfl, g1, hy, h3⟩
    | succ j =>
      have hf : tk.beq p.1 x = false := by
        cases hq : tk.beq p.1 x with
        | false => rfl
        | true => exact absurd (hb.1 hq) (hmin 0 e0 (by omega) rfl)
      simp at hj
      obtain ⟨⟨y, b1, b2⟩, b3, b4⟩ := RelE_hit hk hx l es h3 j e hj hek fun i e'' hi he => hmin (i + 1) e'' (by omega) (by simpa using he)
      refine ⟨⟨y, by simp [mapFind, hf, b1], b2⟩, ?_, fun y u g1 hy => ?_⟩
      · simp only [mapDel, hf, cond_false, List.eraseIdx_cons_succ]
        exact ⟨_, _, rfl, h1, h2, b3⟩
      · simp only [mapPut, hf, cond_false, List.set_cons_succ]
        exact ⟨_, _, rfl, h1, h2, b4 y u g1 hy⟩

theorem lookR_rel {V : Vw} {tv : Tc} {o : Option tv.den} {u z : Value} (hz0 : ∀ t, tv = .slice t → ∃ a, z = .slice a 0 0) (hz : RelVal V.S V.h tv tv.dflt z) (hu : ∀ y, o = some y → RelVal V.S V.h tv y u) {ok : Bool} {v : FV} {fr fr1 : Fr}
    (h : (lookR tv ok o).go fr = some (v, fr1)) : fr1 = fr ∧ RelV V v (if ok then .tuple #[if o.isSome then u else z, .bool o.isSome] else if o.isSome then u else z) := by
  have hv : RelVal V.S V.h tv (o.getD tv.dflt) (if o.isSome then u else z) := by
    cases o with
    | none => simpa using hz
    | some y => simpa using hu y rfl
  unfold lookR at h
  cases hs : tv.isSl with
  | false =>
    rw [hs] at h
    obtain ⟨rfl, rfl⟩ := go_ret h
    refine ⟨rfl, ?_⟩
    cases ok with
    | false => exact hv
    | true => exact ⟨[_, _], rfl, _, _, rfl, hv, _, _, rfl, rfl, rfl⟩
  | true =>
    rw [hs] at h
    simp only [cond_true, Pr.go] at h
    cases o with
    | none =>
      simp only [Option.isSome_none, Bool.false_eq_true, if_false, Option.some.injEq, Prod.mk.injEq] at h
      obtain ⟨rfl, rfl⟩ := h
      refine ⟨rfl, ?_⟩
      obtain ⟨t, rfl⟩ : ∃ t, tv = .slice t := by cases tv <;> simp [Tc.isSl] at hs; exact ⟨_, rfl⟩
      obtain ⟨a, rfl⟩ := hz0 t rfl
      cases ok with
      | false => exact ⟨a, rfl⟩
      | true => exact ⟨[_, _], rfl, _, _, rfl, ⟨a, rfl⟩, _, _, rfl, rfl, rfl⟩
    | some y =>
      simp only [Option.isSome_some, if_true, Option.some.injEq, Prod.mk.injEq] at h
      obtain ⟨rfl, rfl⟩ := h
      refine ⟨rfl, ?_⟩
      cases ok with
      | false => exact hv
      | true => exact ⟨[_, _], rfl, _, _, rfl, hv, _, _, rfl, rfl, rfl⟩

/-- The map behind a handle. -/
theorem mapAt_ok {j : Nat} {k : (tk tv : Tc) → (Tc.slice (.pair tk tv)).den → Pr FV} {fr fr1 : Fr} {v : FV} (h : (mapAt j k).go fr = some (v, fr1)) {loc S h0} (hc : Core fr.reg loc S h0) {u : Value} (hu : mpRel fr.reg loc j u) :
    ∃ tk tv es m ents clock, (k tk tv es).go fr = some (v, fr1) ∧ u = .map (some m) ∧ h0[m]? = some (.map ents clock) ∧ RelE S h0 tk tv es ents.toList := by
  unfold mapAt at h
  simp only [Pr.go] at h
  have hreg := hc.reg j
  cases hj : fr.reg j <;> rw [hj] at h hreg <;> first | exact (go_fail h).elim | skip
  · rename_i tk tv es
    simp only [mpRel, hj] at hu
    obtain ⟨ents, clock, hb, hr, _⟩ := hreg
    exact ⟨tk, tv, es, _, ents, clock, h, hu, hb, hr⟩
  · rename_i q
    simp only [mpRel, hj] at hu
    simp only [Pr.go] at h
    have hq := hc.reg q
    have hreg' : mpRel fr.reg loc q (.map (some (loc j).blk)) := hreg
    cases hqq : fr.reg q <;> rw [hqq] at h hq <;> first | exact (go_fail h).elim | skip
    rename_i k' tk tv es rem cur pend
    simp only [mpRel, hqq, Value.map.injEq, Option.some.injEq] at hreg'
    obtain ⟨ents, clock, seen, hb, hr, _⟩ := hq
    exact ⟨tk, tv, es, _, ents, clock, h, by rw [hu, hreg'], hb, hr⟩

theorem lookup_ok {P : Program} {E : Env} (hE : EnvOk P E) {en : Ent} {loc S} {t : TypeId} {x i v : FV} {ok : Bool} {ux ui : Value} {fr fr1 : Fr} {w : World} (h : (lookupV E t x i ok).go fr = some (v, fr1)) (hc : Ctx en fr.reg loc S w.heap)
    (hx : RelV (view fr.reg loc S w.heap) x ux) (hi : RelV (view fr.reg loc S w.heap) i ui) :
    fr1.slots = fr.slots ∧ ∃ u, (Instr.lookup t ux ui ok).run P w = .ok u w ∧ Good en fr.reg loc S w.heap fr1.reg w.heap v u := by
  unfold lookupV at h
  cases x
  case mp j =>
    obtain ⟨tk, tv, es, m, ents, clock, h, rfl, hb, hr⟩ := mapAt_ok h hc.core hx
    replace h := go_guard h; obtain ⟨hm, h⟩ := h
    replace h := Pr.go_bind_some h; obtain ⟨k, f1, hk, h⟩ := h
    obtain ⟨kt, vt, ti, z, hu, hkd, hti, hz, hzr, hz0⟩ := mapTc_info hE (of_decide_eq_true hm)
    obtain ⟨g1, S1, g2, g3, hkr⟩ := closeD_ok hk hc hi
    have hr' := RelE_mono g3.S _ _ _ _ hr
    obtain ⟨o, ho, hf⟩ := run_find hkd hkr (RelE_mem _ _ hr') w
    have hck := run_check hkd hkr ents.isEmpty 9950 w
    rcases hf with ⟨rfl, hf⟩ | ⟨n, e, rfl, f2, f3, f4⟩
    · obtain ⟨b1, _, _⟩ := RelE_miss hkd hkr _ _ hr' hf
      rw [b1] at h
      obtain ⟨rfl, hl⟩ := lookR_rel (V := view f1.reg loc S1 w.heap) (u := z) hz0 (hzr _ _) (fun y hy => by cases hy) h
      refine ⟨g1, _, ?_, loc, S1, g2, g3, hl⟩
      simp [Instr.lookup, run_underlying hu, MapKept.run_getObj_map hb, hck, ho, zeroValue, typeInfo, hti, hz, Result.andThen]
    · obtain ⟨⟨y, b1, b2⟩, _⟩ := RelE_hit hkd hkr _ _ hr' n e f2 f3 f4
      rw [b1] at h
      obtain ⟨rfl, hl⟩ := lookR_rel (V := view f1.reg loc S1 w.heap) (u := e.val) (z := z) hz0 (hzr _ _) (fun y' hy => by cases hy; exact b2) h
      refine ⟨g1, _, ?_, loc, S1, g2, g3, hl⟩
      simp [Instr.lookup, run_underlying hu, MapKept.run_getObj_map hb, hck, ho, Result.andThen]
  case nilm =>
    replace h := go_popt h; obtain ⟨p, hp, h⟩ := h
    replace h := Pr.go_bind_some h; obtain ⟨k, f1, hk, h⟩ := h
    obtain ⟨kt, vt, ti, z, hu, hkd, hti, hz, hzr, hz0⟩ := mapTc_info hE (tk := p.1) (tv := p.2) hp
    obtain ⟨g1, S1, g2, g3, hkr⟩ := closeD_ok hk hc hi
    cases hx
    obtain ⟨o, ho, hf⟩ := run_find (es := []) hkd hkr (fun _ he => by cases he) w
    have hck := run_check hkd hkr true 9950 w
    rcases hf with ⟨rfl, hf⟩ | ⟨n, e, rfl, f2, f3, f4⟩
    · obtain ⟨rfl, hl⟩ := lookR_rel (V := view f1.reg loc S1 w.heap) (u := z) (o := none) hz0 (hzr _ _) (fun y hy => by cases hy) h
      refine ⟨g1, _, ?_, loc, S1, g2, g3, hl⟩
      simp [Instr.lookup, run_underlying hu, hck, ho, zeroValue, typeInfo, hti, hz, Result.andThen]
    · simp at f2
  all_goals exact (go_fail h).elim

theorem makeMap_ok {P : Program} {E : Env} {en : Ent} {loc S} {dst : Option Tmp} {t : TypeId} {v : FV} {fr fr1 : Fr} {w : World} (h : (makeMapV E dst t).go fr = some (v, fr1)) (hc : Ctx en fr.reg loc S w.heap) :
    fr1.slots = fr.slots ∧ ∃ u w1, (Instr.makeMap t none).run P w = .ok u w1 ∧ Sm w w1 ∧ Good en fr.reg loc S w.heap fr1.reg w1.heap v u := by
  unfold makeMapV at h
  replace h := go_popt h; obtain ⟨ti, _, h⟩ := h
  replace h := go_popt h; obtain ⟨mp, _, h⟩ := h
  obtain ⟨tk, tv, h⟩ : ∃ tk tv, (newReg dst (.map tk tv []) (.mp (siteOf dst))).go fr = some (v, fr1) := by
    split at h
    · exact ⟨_, _, h⟩
    · exact ⟨_, _, h⟩
  obtain ⟨h1, rfl, rfl⟩ := newReg_go h
  have hm := ctx_new (h' := w.heap.push (.map #[] 0)) (j := siteOf dst) (r := .map tk tv []) (l := ⟨w.heap.size, 0, 0, false, none⟩) hc h1 (fun _ => ⟨rfl, by simp⟩) (by simp) (fun b hb => push_old hb)
    (fun hle => ⟨#[], 0, by simp [view], rfl, by simp, by simp, by simp⟩)
  rw [← setR_mod] at hm
  refine ⟨rfl, .map (some w.heap.size), { w with heap := w.heap.push (.map #[] 0) }, rfl, ⟨rfl, rfl⟩, _, S, hm.1, hm.2, ?_⟩
  show mpRel _ _ _ _
  simp [mpRel, Fr.reg_setR, modL]

theorem steady_push {es : Array MapEntry} {clock : Nat} (h : Steady es clock) (k v : Value) (hk : ∀ e ∈ es.toList, e.key ≠ k) : Steady (es.push ⟨k, v, clock⟩) (clock + 1) := by
  obtain ⟨h1, h2, h3⟩ := h
  refine ⟨fun x hx => ?_, ?_, ?_⟩
  · simp only [Array.toList_push, List.mem_append, List.mem_singleton] at hx
    rcases hx with hx | rfl
    · exact Nat.lt_succ_of_lt (h1 x hx)
    · exact Nat.lt_succ_self _
  · simp only [Array.toList_push, List.map_append, List.map_cons, List.map_nil]
    refine List.nodup_append.2 ⟨h2, by simp, ?_⟩
    intro a ha b hb
    simp only [List.mem_singleton] at hb
    subst hb
    obtain ⟨x, hx, rfl⟩ := List.mem_map.1 ha
    exact Nat.ne_of_lt (h1 x hx)
  · simp only [Array.toList_push, List.map_append, List.map_cons, List.map_nil]
    refine List.nodup_append.2 ⟨h3, by simp, ?_⟩
    intro a ha b hb
    simp only [List.mem_singleton] at hb
    subst hb
    obtain ⟨x, hx, rfl⟩ := List.mem_map.1 ha
    exact hk x hx

theorem modify_list {es : Array MapEntry} {n : Nat} {e : MapEntry} {f : MapEntry → MapEntry} (he : es.toList[n]? = some e) : (es.modify n f).toList = es.toList.set n (f e) := by
  apply List.ext_getElem?
  intro i
  rw [Array.getElem?_toList, Array.getElem?_modify]
  by_cases hin : n = i
  · subst hin
    have hlt : n < es.toList.length := (List.getElem?_eq_some_iff.1 he).1
    rw [← Array.getElem?_toList, he, List.getElem?_set_self hlt]
    simp
  · simp [hin]

theorem set_map {α β : Type} (f : α → β) : ∀ (l : List α) (n : Nat) (x y : α), l[n]? = some x → f y = f x → (l.set n y).map f = l.map f
  | [], _, _, _, h, _ => by simp at h
  | a :: l, 0, x, y, h, e => by simp at h; subst h; simp [e]
  | a :: l, n + 1, x, y, h, e => by simp at h; simp [set_map f l n x y h e]

theorem steady_modify {es : Array MapEntry} {clock n : Nat} {e : MapEntry} {f : MapEntry → MapEntry} (h : Steady es clock) (he : es.toList[n]? = some e) (hb : (f e).born = e.born) (hk : (f e).key = e.key) : Steady (es.modify n f) clock := by
  have hm := set_map (fun x : MapEntry => x.born) es.toList n e (f e) he hb
  have hm2 := set_map (fun x : MapEntry => x.key) es.toList n e (f e) he hk
  refine ⟨fun x hx => ?_, by rw [modify_list he, hm]; exact h.2.1, by rw [modify_list he, hm2]; exact h.2.2⟩
  have : x.born ∈ (es.modify n f).toList.map (·.born) := List.mem_map.2 ⟨x, hx, rfl⟩
  rw [modify_list he, hm] at this
  obtain ⟨y, hy, e⟩ := List.mem_map.1 this
  rw [← e]; exact h.1 y hy

theorem erase_list (es : Array MapEntry) (n : Nat) : (es.eraseIdxIfInBounds n).toList = es.toList.eraseIdx n := by
  unfold Array.eraseIdxIfInBounds
  split
  · simp
  · rw [List.eraseIdx_of_length_le (by simp; omega)]

theorem steady_erase {es : Array MapEntry} {clock : Nat} (h : Steady es clock) (n : Nat) : Steady (es.eraseIdxIfInBounds n) clock := by
  have hs : (es.eraseIdxIfInBounds n).toList.Sublist es.toList := by rw [erase_list]; exact List.eraseIdx_sublist _ _
  exact ⟨fun x hx => h.1 x (hs.subset hx), (hs.map _).nodup h.2.1, (hs.map _).nodup h.2.2⟩

/-- A map in its block becomes another one. -/
theorem ctx_map {en : Ent} {fr : Fr} {loc S} {h : Array Obj} {j : Nat} {tk tv : Tc} {es es' : List (tk.den × tv.den)} {ents ents' : Array MapEntry} {clock clock' : Nat} (hc : Ctx en fr.reg loc S h) (hj : fr.reg j = .map tk tv es)
    (hb : h[(loc j).blk]? = some (.map ents clock)) (hr : RelE S h tk tv es' ents'.toList) (hst : Steady ents' clock') :
    Ctx en (fr.setR j (.map tk tv es')).reg loc S (h.setIfInBounds (loc j).blk (.map ents' clock')) ∧
      (view fr.reg loc S h).le (view (fr.setR j (.map tk tv es')).reg loc S (h.setIfInBounds (loc j).blk (.map ents' clock'))) := by
  have hlt : (loc j).blk < h.size := (Array.getElem?_eq_some_iff.1 hb).1
  have s1 : (h.setIfInBounds (loc j).blk (.map ents' clock'))[(loc j).blk]? = some (.map ents' clock') := by simp [hlt]
  have s2 : ∀ r', r' ≠ (loc j).blk → (h.setIfInBounds (loc j).blk (.map ents' clock'))[r']? = h[r']? := fun r' hne => by simp [Ne.symm hne]
  have hcm := ctx_mod (h' := h.setIfInBounds (loc j).blk (.map ents' clock')) (k := j) (j := j) (r := .map tk tv es') (l := loc j) hc (by rw [hj]; trivial) (.inl rfl) (fun _ => rfl) (by simp) s2
    (fun _ v hv => by simp [slRel, modR]) (fun _ o v hv => by simp [ptRel, modR]) (fun _ i o v hv => by simp [elRel, modR])
    (fun _ v hv => by simp only [mpRel, hj] at hv; simp [mpRel, modR, modL, hv])
    (fun hle => ⟨ents', clock', by simpa [view] using s1, RelE_mono hle.S _ _ _ _ hr, hst⟩)
  rw [modL_self, ← setR_mod] at hcm
  exact hcm

/-- What an update leaves in a block. -/
theorem update_run {P : Program} {S h'} {tk tv : Tc} {kt vt : TypeId} {t : TypeId} {w : World} {m : Nat} {ents : Array MapEntry} {clock : Nat} {es : List (tk.den × tv.den)} {x : tk.den} {y : tv.den} {uk ux : Value}
    (hu : P.underlying t = some (.map kt vt)) (hk : KeyOK P kt tk) (hb : w.heap[m]? = some (.map ents clock)) (hst : Steady ents clock) (hr : RelE S h' tk tv es ents.toList) (hx : RelVal S h' tk x uk) (hy : RelVal S h' tv y ux) :
    ∃ ents' clock', (Instr.mapUpdate t (.map (some m)) uk ux).run P w = .ok () { w with heap := w.heap.setIfInBounds m (.map ents' clock') } ∧ RelE S h' tk tv (mapPut tk tv x y es) ents'.toList ∧ Steady ents' clock' ∧
      ((mapFind tk tv x es = none) ∨ ((mapFind tk tv x es).isSome = true ∧ clock' = clock ∧ ∃ n e, ents.toList[n]? = some e ∧ e.key = uk ∧ ents'.toList = ents.toList.set n { e with key := uk, val := ux })) := by
  obtain ⟨o, ho, hf⟩ := run_find hk hx (RelE_mem _ _ hr) w
  have hck := run_check hk hx false 9950 w
  rcases hf with ⟨rfl, hf⟩ | ⟨n, e, rfl, f2, f3, f4⟩
  · obtain ⟨b1, _, b3⟩ := RelE_miss hk hx _ _ hr hf
    refine ⟨ents.push ⟨uk, ux, clock⟩, clock + 1, ?_, ?_, steady_push hst _ _ hf, .inl b1⟩
    · simp [Instr.mapUpdate, run_underlying hu, MapKept.run_getObj_map hb, hck, ho, MapKept.run_setObj_map _ hb, Result.andThen]
    · rw [Array.toList_push]; exact b3 y ux clock hx hy
  · obtain ⟨⟨y0, b1, _⟩, _, b3⟩ := RelE_hit hk hx _ _ hr n e f2 f3 f4
    have hen : ents[n]? = some e := by rw [← Array.getElem?_toList]; exact f2
    refine ⟨ents.modify n fun e => { e with key := uk, val := ux }, clock, ?_, ?_, steady_modify hst f2 rfl (by simp [f3]), .inr ⟨by rw [b1]; rfl, rfl, n, e, f2, f3, modify_list f2⟩⟩
    · simp [Instr.mapUpdate, run_underlying hu, MapKept.run_getObj_map hb, hck, ho, hen, f3, run_stays hk hx, MapKept.run_setObj_map _ hb, Result.andThen]
    · rw [modify_list f2]; exact b3 y ux hx hy

/-! stamps and keys -/
def stk2 (es : List MapEntry) : List (Nat × Value) := es.map fun e => (e.born, e.key)

theorem RelK_map {S h} {tk : Tc} : ∀ (l : List tk.den) (es es' : List MapEntry), (es.map fun e => e.key) = (es'.map fun e => e.key) → RelK S h tk l es → RelK S h tk l es'
  | [], es, es', he, hr => by
    cases hr
    cases es' with
    | nil => rfl
    | cons _ _ => simp at he
  | x :: l, _, es', he, ⟨e, es, h0, h1, h2⟩ => by
    subst h0
    cases es' with
    | nil => simp at he
    | cons e' es' =>
      simp only [List.map_cons, List.cons.injEq] at he
      exact ⟨e', es', rfl, by rw [← he.1]; exact h1, RelK_map l es es' he.2 h2⟩

theorem left_keys (es : List MapEntry) (seen : Array Nat) : ((leftOf es seen).map fun e => e.key) = ((stk2 es).filter fun p => !seen.contains p.1).map fun p => p.2 := by
  induction es with
  | nil => rfl
  | cons e es ih =>
    simp only [leftOf, stk2, List.filter_cons, List.map_cons]
    split <;> simp_all [leftOf, stk2]

theorem IterAt_same {S h} {tk : Tc} {es es' : List MapEntry} {rem cur : List tk.den} {pend : Bool} {seen : Array Nat} (he : stk2 es = stk2 es') (hi : IterAt S h tk es rem cur pend seen) : IterAt S h tk es' rem cur pend seen := by
  have hl : ((leftOf es seen).map fun e => e.key) = ((leftOf es' seen).map fun e => e.key) := by rw [left_keys, left_keys, he]
  have hm : ∀ x : tk.den, (∃ e ∈ es, seen.back? = some e.born ∧ RelVal S h tk x e.key) → ∃ e ∈ es', seen.back? = some e.born ∧ RelVal S h tk x e.key := by
    rintro x ⟨e, he1, h1, h2⟩
    have : (e.born, e.key) ∈ stk2 es' := by rw [← he]; exact List.mem_map.2 ⟨e, he1, rfl⟩
    obtain ⟨e', g1, g2⟩ := List.mem_map.1 this
    simp only [Prod.mk.injEq] at g2
    exact ⟨e', g1, by rw [g2.1]; exact h1, by rw [g2.2]; exact h2⟩
  cases pend with
  | false => exact ⟨RelK_map _ _ _ hl hi.1, fun x hx => hm x (hi.2 x hx)⟩
  | true =>
    obtain ⟨i, h1, h2, x, h3, h4⟩ := hi
    exact ⟨i, h1, RelK_map _ _ _ hl h2, x, h3, hm x h4⟩

theorem stk2_set {es : List MapEntry} {n : Nat} {e e' : MapEntry} (he : es[n]? = some e) (h : (e'.born, e'.key) = (e.born, e.key)) : stk2 es = stk2 (es.set n e') := (set_map (fun e : MapEntry => (e.born, e.key)) es n e e' he h).symm

theorem mit_blk {fr : Fr} {loc S h} (hc : Core fr.reg loc S h) {j q k : Nat} {tk tv : Tc} {es rem cur pend} (hj : fr.reg j = .fwd q) (hq : fr.reg q = .mit k tk tv es rem cur pend) : (loc j).blk = (loc q).blk := by
  have hreg := hc.reg j
  rw [hj] at hreg
  have hreg' : mpRel fr.reg loc q (.map (some (loc j).blk)) := hreg
  simp only [mpRel, hq, Value.map.injEq, Option.some.injEq] at hreg'
  exact hreg'

/-- The iterator's region gives the map back; the block may hold something new. -/
theorem ctx_back {en : Ent} {fr : Fr} {loc S} {h : Array Obj} {j q k : Nat} {tk tv : Tc} {es es' : List (tk.den × tv.den)} {rem cur pend} {ents' : Array MapEntry} {clock' : Nat} (hc : Ctx en fr.reg loc S h) (hj : fr.reg j = .fwd q) (hq : fr.reg q = .mit k tk tv es rem cur pend)
    (hr : RelE S h tk tv es' ents'.toList) (hst : Steady ents' clock') {h' : Array Obj} (hsz : h'.size = h.size) (hb' : h'[(loc q).blk]? = some (.map ents' clock')) (hoth : ∀ x, x ≠ (loc q).blk → h'[x]? = h[x]?) :
    Ctx en ((fr.setR q .dead).setR j (.map tk tv es')).reg loc S h' ∧ (view fr.reg loc S h).le (view ((fr.setR q .dead).setR j (.map tk tv es')).reg loc S h') := by
  have hblk := mit_blk hc.core hj hq
  have hne : q ≠ j := by rintro rfl; rw [hj] at hq; cases hq
  have hk : owns (loc q) (fr.reg q) := by rw [hq]; trivial
  have hrg : ((fr.setR q .dead).setR j (.map tk tv es')).reg = movR fr.reg q j .dead (.map tk tv es') := by
    funext i
    rw [setR_reg, setR_reg]
    rfl
  have hloc : modL loc j (loc j) = loc := modL_self loc j
  have hS : ∀ x, S x → h'[x]? = h[x]? := fun x hx => hoth x (fun e => hc.core.nS q hk (e ▸ hx))
  have hle : (view fr.reg loc S h).le (view (movR fr.reg q j .dead (.map tk tv es')) (modL loc j (loc j)) S h') := by
    refine view_le_move hS ?_ ?_ ?_ ?_
    · rintro i (rfl | rfl) v e
      · simp [slRel, movR, hne]
      · simp [slRel, movR]
    · rintro i (rfl | rfl) o v e
      · simp [ptRel, movR, hne]
      · simp [ptRel, movR]
    · rintro i (rfl | rfl) o1 o v e
      · simp [elRel, movR, hne]
      · simp [elRel, movR]
    · rintro i (rfl | rfl) v e
      · simp [mpRel, movR, hne]
      · simp only [mpRel, hj] at e; simp [mpRel, movR, hloc, e]
  have hcm := ctx_hand (l := loc j) (ra := .dead) (r := .map tk tv es') hc hne hk (by rw [hj]; exact fun h => h) (fun h => h) hblk rfl (fun h => by cases h) (Nat.le_of_eq hsz.symm) (fun x _ hx => hoth x hx) hle trivial
    ⟨ents', clock', by show h'[(loc j).blk]? = _; rw [hblk]; exact hb', RelE_mono hle.S _ _ _ _ hr, hst⟩
  rw [hloc] at hcm hle
  rw [hrg]
  exact ⟨hcm, hle⟩

theorem mapUpdate_ok {P : Program} {E : Env} (hE : EnvOk P E) {en : Ent} {loc S} {t : TypeId} {m k x v : FV} {um uk ux : Value} {fr fr1 : Fr} {w : World} (h : (mapUpdateV E t m k x).go fr = some (v, fr1))
    (hc : Ctx en fr.reg loc S w.heap) (hmr : RelV (view fr.reg loc S w.heap) m um) (hkr : RelV (view fr.reg loc S w.heap) k uk) (hxr : RelV (view fr.reg loc S w.heap) x ux) :
    v = .skp ∧ fr1.slots = fr.slots ∧ ∃ w1, (Instr.mapUpdate t um uk ux).run P w = .ok () w1 ∧ Sm w w1 ∧ Left' en fr.reg loc S w.heap fr1.reg w1.heap := by
  unfold mapUpdateV at h
  cases m
  case mp j =>
    obtain ⟨tk, tv, _, _, _, _, h, _, _, _⟩ := mapAt_ok h hc.core hmr
    replace h := go_guard h; obtain ⟨hm, h⟩ := h
    replace h := Pr.go_bind_some h; obtain ⟨kx, f1, hk, h⟩ := h
    replace h := Pr.go_bind_some h; obtain ⟨y, f2, hy, h⟩ := h
    obtain ⟨kt, vt, ti, z, hu, hkd, hti, hz, hzr, hz0⟩ := mapTc_info hE (of_decide_eq_true hm)
    obtain ⟨g1, S1, g2, g3, k1⟩ := closeD_ok hk hc hkr
    obtain ⟨e1, S2, e2, e3, y1⟩ := closeD_ok hy g2 (RelV_mono g3 _ _ hxr)
    have k2 := RelVal_mono e3.S _ _ _ k1
    have hsl : f2.slots = fr.slots := e1.trans g1
    have hle := Vw.le_trans g3 e3
    have hmr2 : mpRel f2.reg loc j um := hle.mp _ _ hmr
    simp only [Pr.go] at h
    have hreg := e2.core.reg j
    cases hj : f2.reg j <;> rw [hj] at h hreg <;> first | exact (go_fail h).elim | skip
    · rename_i tk' tv' es
      simp only at h
      split at h
      · rename_i hh
        obtain ⟨rfl, rfl⟩ := hh
        simp only [Pr.go, Option.some.injEq, Prod.mk.injEq] at h
        obtain ⟨rfl, rfl⟩ := h
        simp only [mpRel, hj] at hmr2; subst hmr2
        obtain ⟨ents, clock, hb, hr, hst⟩ := hreg
        obtain ⟨ents', clock', hrun, hr', hst', _⟩ := update_run hu hkd hb hst hr k2 y1
        obtain ⟨c1, c2⟩ := ctx_map e2 hj hb hr' hst'
        exact ⟨rfl, hsl, _, hrun, ⟨rfl, rfl⟩, loc, S2, c1, Vw.le_trans hle c2⟩
      · exact (go_fail h).elim
    · rename_i q
      simp only [Pr.go] at h
      cases hq : f2.reg q <;> rw [hq] at h <;> first | exact (go_fail h).elim | skip
      rename_i j' tk' tv' es rem cur pend
      simp only at h
      split at h
      · rename_i hh
        obtain ⟨rfl, rfl, rfl⟩ := hh
        simp only [mpRel, hj] at hmr2; subst hmr2
        have hblk := mit_blk e2.core hj hq
        have hrq := e2.core.reg q
        rw [hq] at hrq
        obtain ⟨ents, clock, seen, hb, hr, hst, hit, hia, hnS⟩ := hrq
        have hb2 : w.heap[(loc q).blk]? = some (.map ents clock) := hb
        obtain ⟨ents', clock', hrun, hr', hst', hcase⟩ := update_run hu hkd hb2 hst hr k2 y1
        rw [hblk]
        have hlt : (loc q).blk < w.heap.size := (Array.getElem?_eq_some_iff.1 hb2).1
        have s1 : (w.heap.setIfInBounds (loc q).blk (.map ents' clock'))[(loc q).blk]? = some (.map ents' clock') := by simp [hlt]
        have s2 : ∀ r', r' ≠ (loc q).blk → (w.heap.setIfInBounds (loc q).blk (.map ents' clock'))[r']? = w.heap[r']? := fun r' hne => by simp [Ne.symm hne]
        have hk : owns (loc q) (f2.reg q) := by rw [hq]; trivial
        have haux : (loc q).off ≠ (loc q).blk := aux_ne e2.core (by rw [hq]; rfl) hk
        simp only [Pr.go] at h
        rcases hcase with hnone | ⟨hsome, rfl, n, e, he, hek, hset⟩
        · rw [hnone] at h
          simp only [Option.isSome_none, Bool.false_eq_true, if_false, Option.some.injEq, Prod.mk.injEq] at h
          obtain ⟨rfl, rfl⟩ := h
          obtain ⟨c1, c2⟩ := ctx_back (h' := w.heap.setIfInBounds (loc q).blk (.map ents' clock')) e2 hj hq hr' hst' (by simp) s1 s2
          exact ⟨rfl, hsl, _, hrun, ⟨rfl, rfl⟩, loc, S2, c1, Vw.le_trans hle c2⟩
        · rw [hsome] at h
          simp only [if_true, Option.some.injEq, Prod.mk.injEq] at h
          obtain ⟨rfl, rfl⟩ := h
          have hcm := ctx_mod (h' := w.heap.setIfInBounds (loc q).blk (.map ents' clock')) (k := q) (j := q) (r := .mit j' tk' tv' (mapPut tk' tv' kx y es) rem cur pend) (l := loc q) e2 hk (.inl rfl) (fun _ => rfl) (by simp) s2
            (fun _ v hv => by simp [slRel, modR]) (fun _ o v hv => by simp only [ptRel, hq] at hv; simp [ptRel, modR, modL, hv]) (fun _ i o v hv => by simp [elRel, modR])
            (fun _ v hv => by simp only [mpRel, hq] at hv; simp [mpRel, modR, modL, hv])
            (fun hle' => ⟨ents', clock', seen, by simpa [view] using s1, RelE_mono hle'.S _ _ _ _ hr', hst', by
              show (w.heap.setIfInBounds (loc q).blk (.map ents' clock'))[(loc q).off]? = _
              rw [s2 _ haux]; exact hit, by
              refine IterAt_mono hle'.S (IterAt_same ?_ hia)
              rw [hset]
              exact stk2_set he (by simp [hek]), hnS⟩) (fun _ => ⟨rfl, by rw [hq]; rfl, rfl⟩)
          rw [modL_self, ← setR_mod] at hcm
          exact ⟨rfl, hsl, _, hrun, ⟨rfl, rfl⟩, loc, S2, hcm.1, Vw.le_trans hle hcm.2⟩
      · exact (go_fail h).elim
  all_goals exact (go_fail h).elim

theorem delete_ok {P : Program} {E : Env} (hE : EnvOk P E) {en : Ent} {loc S} {t t2 : TypeId} {m k v : FV} {um uk : Value} {ty : TypeId} {fr fr1 : Fr} {w : World} (h : (deleteV E t m k).go fr = some (v, fr1))
    (hc : Ctx en fr.reg loc S w.heap) (hmr : RelV (view fr.reg loc S w.heap) m um) (hkr : RelV (view fr.reg loc S w.heap) k uk) :
    fr1.slots = fr.slots ∧ ∃ u w1, (Builtin.delete_ #[t, t2] ty #[um, uk]).run P w = .ok u w1 ∧ Sm w w1 ∧ Good en fr.reg loc S w.heap fr1.reg w1.heap v u := by
  unfold deleteV at h
  cases m
  case mp j =>
    simp only [Pr.go] at h
    have hx' : mpRel fr.reg loc j um := hmr
    have hreg := hc.core.reg j
    cases hj : fr.reg j <;> rw [hj] at h hreg <;> first | exact (go_fail h).elim | skip
    rename_i tk tv es
    replace h := go_guard h; obtain ⟨hm, h⟩ := h
    replace h := go_popt h; obtain ⟨kx, hk, h⟩ := h
    simp only [Pr.go, Option.some.injEq, Prod.mk.injEq] at h
    obtain ⟨rfl, rfl⟩ := h
    obtain ⟨kt, vt, ti, z, hu, hkd, hti, hz, hzr, hz0⟩ := mapTc_info hE (of_decide_eq_true hm)
    simp only [mpRel, hj] at hx'; subst hx'
    obtain ⟨ents, clock, hb, hr, hst⟩ := hreg
    have hb2 : w.heap[(loc j).blk]? = some (.map ents clock) := hb
    have k1 := asD_rel (S := S) (h := w.heap) ⟨rfl, rfl⟩ hk hkr
    obtain ⟨o, ho, hf⟩ := run_find hkd k1 (RelE_mem _ _ hr) w
    have hck := run_check hkd k1 ents.isEmpty 9950 w
    rcases hf with ⟨rfl, hf⟩ | ⟨n, e, rfl, f2, f3, f4⟩
    · obtain ⟨_, b2, _⟩ := RelE_miss hkd k1 _ _ hr hf
      obtain ⟨c1, c2⟩ := ctx_map hc hj hb2 (es' := mapDel tk tv kx es) (by rw [b2]; exact hr) hst
      refine ⟨rfl, .tuple #[], { w with heap := w.heap.setIfInBounds (loc j).blk (.map ents clock) }, ?_, ⟨rfl, rfl⟩, loc, S, c1, c2, ⟨[], rfl, rfl⟩⟩
      simp [Builtin.delete_, run_underlying hu, MapKept.run_getObj_map hb2, hck, ho, MapKept.run_setObj_map _ hb2, Result.andThen]
    · obtain ⟨_, b2, _⟩ := RelE_hit hkd k1 _ _ hr n e f2 f3 f4
      obtain ⟨c1, c2⟩ := ctx_map hc hj hb2 (es' := mapDel tk tv kx es) (ents' := ents.eraseIdxIfInBounds n) (by rw [erase_list]; exact b2) (steady_erase hst n)
      refine ⟨rfl, .tuple #[], { w with heap := w.heap.setIfInBounds (loc j).blk (.map (ents.eraseIdxIfInBounds n) clock) }, ?_, ⟨rfl, rfl⟩, loc, S, c1, c2, ⟨[], rfl, rfl⟩⟩
      simp [Builtin.delete_, run_underlying hu, MapKept.run_getObj_map hb2, hck, ho, MapKept.run_setObj_map _ hb2, Result.andThen]
  all_goals exact (go_fail h).elim

/-! ### ranges over maps -/
theorem RelE_keysK {S h} {tk tv : Tc} : ∀ (l : List (tk.den × tv.den)) (es : List MapEntry), RelE S h tk tv l es → RelK S h tk (l.map fun p => p.1) es
  | [], _, hr => hr
  | p :: l, _, ⟨e, es, h0, h1, h2, h3⟩ => ⟨e, es, h0, h1, RelE_keysK l es h3⟩

theorem RelK_len {S h} {tk : Tc} : ∀ (l : List tk.den) (es : List MapEntry), RelK S h tk l es → es.length = l.length
  | [], _, hr => by cases hr; rfl
  | x :: l, _, ⟨e, es, h0, h1, h2⟩ => by subst h0; simp [RelK_len l es h2]

theorem RelK_at {S h} {tk : Tc} : ∀ (l : List tk.den) (es : List MapEntry), RelK S h tk l es → ∀ (i : Nat) (e : MapEntry), es[i]? = some e → ∃ x, l[i]? = some x ∧ RelVal S h tk x e.key ∧ RelK S h tk (l.eraseIdx i) (es.eraseIdx i)
  | [], _, hr, i, e, he => by cases hr; simp at he
  | x :: l, _, ⟨e0, es, h0, h1, h2⟩, 0, e, he => by
    subst h0
    simp at he; subst he
    exact ⟨x, rfl, h1, by simpa using h2⟩
  | x :: l, _, ⟨e0, es, h0, h1, h2⟩, i + 1, e, he => by
    subst h0
    simp at he
    obtain ⟨y, g1, g2, g3⟩ := RelK_at l es h2 i e he
    exact ⟨y, by simpa using g1, g2, by simpa using ⟨e0, _, rfl, h1, g3⟩⟩

theorem left_zero (es : List MapEntry) : leftOf es #[] = es := by
  unfold leftOf
  rw [List.filter_eq_self]
  intro e _; simp

theorem left_push {es : List MapEntry} (hn : (es.map (·.born)).Nodup) {seen : Array Nat} {i : Nat} {e : MapEntry} (he : (leftOf es seen)[i]? = some e) : leftOf es (seen.push e.born) = (leftOf es seen).eraseIdx i := by
  have h1 : leftOf es (seen.push e.born) = (leftOf es seen).filter fun x => !(x.born == e.born) := by
    unfold leftOf
    rw [List.filter_filter]
    refine List.filter_congr fun x _ => ?_
    simp only [Array.contains_push, Bool.not_or, Bool.and_comm]
  rw [h1]
  have hnd : ((leftOf es seen).map (·.born)).Nodup := ((List.filter_sublist (l := es)).map _).nodup hn
  generalize leftOf es seen = l at he hnd
  clear h1
  induction l generalizing i with
  | nil => simp at he
  | cons x l ih =>
    simp only [List.map_cons, List.nodup_cons] at hnd
    cases i with
    | zero =>
      simp at he; subst he
      simp only [List.eraseIdx_cons_zero, List.filter_cons, beq_self_eq_true, Bool.not_true, Bool.false_eq_true, if_false]
      rw [List.filter_eq_self]
      intro y hy
      have : y.born ≠ x.born := fun e => hnd.1 (e ▸ List.mem_map.2 ⟨y, hy, rfl⟩)
      simp [this]
    | succ i =>
      simp at he
      have hne : x.born ≠ e.born := fun h => hnd.1 (h ▸ List.mem_map.2 ⟨e, List.mem_of_getElem? he, rfl⟩)
      simp only [List.eraseIdx_cons_succ, List.filter_cons]
      rw [if_pos (by simp [hne]), ih he hnd.2]

theorem range_ok {P : Program} {E : Env} (hE : EnvOk P E) {en : Ent} {loc S} {dst : Option Tmp} {t : TypeId} {x v : FV} {ux : Value} {fr fr1 : Fr} {w : World} (h : (rangeV E dst t x).go fr = some (v, fr1)) (hc : Ctx en fr.reg loc S w.heap)
    (hx : RelV (view fr.reg loc S w.heap) x ux) :
    fr1.slots = fr.slots ∧ ∃ u w1, (Instr.range t ux).run P w = .ok u w1 ∧ Sm w w1 ∧ Good en fr.reg loc S w.heap fr1.reg w1.heap v u := by
  unfold rangeV at h
  cases x
  case mp j =>
    simp only [Pr.go] at h
    have hx' : mpRel fr.reg loc j ux := hx
    have hreg := hc.core.reg j
    cases hj : fr.reg j <;> rw [hj] at h hreg <;> first | exact (go_fail h).elim | skip
    rename_i tk tv es
    replace h := go_guard h; obtain ⟨hm, h⟩ := h
    simp only [Pr.go] at h
    cases hs : fr.reg (siteOf dst) <;> rw [hs] at h <;> first | exact (go_fail h).elim | skip
    simp only [Pr.go, Option.some.injEq, Prod.mk.injEq] at h
    obtain ⟨rfl, rfl⟩ := h
    obtain ⟨kt, vt, ti, z, hu, hkd, hti, hz, hzr, hz0⟩ := mapTc_info hE (of_decide_eq_true hm)
    simp only [mpRel, hj] at hx'; subst hx'
    obtain ⟨ents, clock, hb, hr, hst⟩ := hreg
    have hb2 : w.heap[(loc j).blk]? = some (.map ents clock) := hb
    have hne : j ≠ siteOf dst := by intro e; rw [← e, hj] at hs; cases hs
    have hk : owns (loc j) (fr.reg j) := by rw [hj]; trivial
    have hrg : ((fr.setR j (.fwd (siteOf dst))).setR (siteOf dst) (.mit j tk tv es (es.map fun p => p.1) [] false)).reg = movR fr.reg j (siteOf dst) (.fwd (siteOf dst)) (.mit j tk tv es (es.map fun p => p.1) [] false) := by
      funext i
      rw [setR_reg, setR_reg]
      rfl
    have hold : ∀ b, b < w.heap.size → (w.heap.push (.mapIter (some (loc j).blk) clock #[] clock))[b]? = w.heap[b]? := fun b hb => push_old hb
    have hS : ∀ b, S b → (w.heap.push (.mapIter (some (loc j).blk) clock #[] clock))[b]? = w.heap[b]? := fun b hb => hold b (hc.core.bS b hb)
    have hblk : (loc j).blk < w.heap.size := (Array.getElem?_eq_some_iff.1 hb2).1
    have hle : (view fr.reg loc S w.heap).le (view (movR fr.reg j (siteOf dst) (.fwd (siteOf dst)) (.mit j tk tv es (es.map fun p => p.1) [] false)) (modL loc (siteOf dst) ⟨(loc j).blk, w.heap.size, 0, false, none⟩) S (w.heap.push (.mapIter (some (loc j).blk) clock #[] clock))) := by
      refine view_le_move hS ?_ ?_ ?_ ?_
      · rintro i (rfl | rfl) v e
        · simp [slRel, movR, hne]
        · simp [slRel, hs] at e
      · rintro i (rfl | rfl) o v e
        · simp [ptRel, movR, hne]
        · simp [ptRel, hs] at e
      · rintro i (rfl | rfl) o1 o v e
        · simp [elRel, movR, hne]
        · simp [elRel, hs] at e
      · rintro i (rfl | rfl) v e
        · simp only [mpRel, hj] at e; simp [mpRel, movR, hne, modL, e]
        · simp [mpRel, hs] at e
    have hcm := ctx_hand (l := ⟨(loc j).blk, w.heap.size, 0, false, none⟩) (ra := .fwd (siteOf dst)) (r := .mit j tk tv es (es.map fun p => p.1) [] false) hc hne hk (by rw [hs]; exact fun h => h) (fun h => h) rfl rfl (fun _ => hc.keep.size) (by simp)
      (fun b hb _ => hold b hb) hle (by
        show mpRel _ _ _ _
        simp [mpRel, movR, modL])
      ⟨ents, clock, #[], by show (w.heap.push _)[(loc j).blk]? = _; rw [hold _ hblk]; exact hb2, RelE_mono hle.S _ _ _ _ hr, hst, by simp [view], by
        refine ⟨?_, fun x hx => by cases hx⟩
        rw [left_zero]
        exact RelE_keysK _ _ (RelE_mono hle.S _ _ _ _ hr), fun hb => absurd (hc.core.bS _ hb) (Nat.lt_irrefl _)⟩
    refine ⟨rfl, .pointer (some ⟨w.heap.size, 0, none⟩), { w with heap := w.heap.push (.mapIter (some (loc j).blk) clock #[] clock) }, ?_, ⟨rfl, rfl⟩, _, S, by rw [hrg]; exact hcm, by rw [hrg]; exact hle, ?_⟩
    · simp [Instr.range, run_underlying hu, MapKept.run_getObj_map hb2, Result.andThen]
    · rw [hrg]
      show ptRel _ _ _ _ _
      simp [ptRel, movR, modL]
  all_goals exact (go_fail h).elim

theorem next_ok {P : Program} {en : Ent} {loc S} {x v : FV} {isS : Bool} {ux : Value} {ty : TypeId} {fr fr1 : Fr} {w : World} (h : (nextV x isS).go fr = some (v, fr1)) (hc : Ctx en fr.reg loc S w.heap)
    (hx : RelV (view fr.reg loc S w.heap) x ux) :
    fr1.slots = fr.slots ∧ ∃ u w1, (Instr.next ux isS ty).run P w = .ok u w1 ∧ Sm w w1 ∧ Good en fr.reg loc S w.heap fr1.reg w1.heap v u := by
  unfold nextV at h
  cases isS with
  | true => exact (go_fail h).elim
  | false =>
  simp only [cond_false] at h
  cases x
  case ptr q o =>
    simp only at h
    split at h
    · rename_i ho
      subst ho
      have hx' : ptRel fr.reg loc q 0 ux := hx
      simp only [Pr.go] at h
      have hreg := hc.core.reg q
      cases hq : fr.reg q <;> rw [hq] at h hreg <;> first | exact (go_fail h).elim | skip
      rename_i j tk tv es rem cur pend
      replace h := go_guard h; obtain ⟨hp, h⟩ := h
      have hp' : pend = false := by simpa using hp
      subst hp'
      simp only [ptRel, hq] at hx'; subst hx'
      obtain ⟨ents, clock, seen, hb, hr, hst, hit, hia, hnS⟩ := hreg
      have hb2 : w.heap[(loc q).blk]? = some (.map ents clock) := hb
      have hit2 : w.heap[(loc q).off]? = some (.mapIter (some (loc q).blk) clock seen clock) := hit
      have hll : (Go.leftOf ents seen).toList = leftOf ents.toList seen := by simp [Go.leftOf, leftOf]
      have hlen := RelK_len _ _ hia.1
      simp only [Pr.go] at h
      rcases run_next_at (P := P) w ty (loc q).off (loc q).blk clock clock seen ents clock hit2 hb2 hst.1 (Nat.le_refl _) with ⟨h0, hrun⟩ | ⟨e, he, w1, hw1, hrun⟩
      · have hrem : rem.isEmpty = true := by
          have : (leftOf ents.toList seen).length = 0 := by rw [← hll]; simpa using h0
          rw [this] at hlen
          cases rem with
          | nil => rfl
          | cons _ _ => simp at hlen
        rw [hrem] at h
        simp only [if_true] at h
        cases hj : fr.reg j <;> rw [hj] at h <;> first | exact (go_fail h).elim | skip
        rename_i q'
        replace h := go_guard h; obtain ⟨hqq, h⟩ := h
        have hqq := Nat.eq_of_beq_eq_true hqq
        subst hqq
        simp only [Pr.go, Option.some.injEq, Prod.mk.injEq] at h
        obtain ⟨rfl, rfl⟩ := h
        obtain ⟨c1, c2⟩ := ctx_back (h' := w.heap) hc hj hq hr hst rfl hb2 (fun _ _ => rfl)
        exact ⟨rfl, _, w, hrun, ⟨rfl, rfl⟩, loc, S, c1, c2, ⟨[_], rfl, _, _, rfl, rfl, rfl⟩⟩
      · rw [hll] at he
        obtain ⟨i, hi⟩ := List.mem_iff_getElem?.1 he
        obtain ⟨x, g1, g2, g3⟩ := RelK_at _ _ hia.1 i e hi
        have hrem : rem.isEmpty = false := by
          cases rem with
          | nil => simp at g1
          | cons _ _ => rfl
        rw [hrem] at h
        simp only [Bool.false_eq_true, if_false, Option.some.injEq, Prod.mk.injEq] at h
        obtain ⟨rfl, rfl⟩ := h
        have hheap : w1.heap = w.heap := by rcases hw1 with rfl | rfl <;> rfl
        have hsm : Sm w w1 := by rcases hw1 with rfl | rfl <;> exact ⟨rfl, rfl⟩
        have hlt : (loc q).off < w.heap.size := (Array.getElem?_eq_some_iff.1 hit2).1
        have hk : owns (loc q) (fr.reg q) := by rw [hq]; trivial
        have haux : (loc q).off ≠ (loc q).blk := aux_ne hc.core (by rw [hq]; rfl) hk
        have hset : (ChangeMaps.setBlock w1 (loc q).off (.mapIter (some (loc q).blk) clock (seen.push e.born) clock)).heap = w.heap.setIfInBounds (loc q).off (.mapIter (some (loc q).blk) clock (seen.push e.born) clock) := by
          show w1.heap.setIfInBounds _ _ = _
          rw [hheap]
        have hoth : ∀ b, b ≠ (loc q).off → (w.heap.setIfInBounds (loc q).off (.mapIter (some (loc q).blk) clock (seen.push e.born) clock))[b]? = w.heap[b]? := fun b hne => by simp [Ne.symm hne]
        have hcm := ctx_aux (h' := w.heap.setIfInBounds (loc q).off (.mapIter (some (loc q).blk) clock (seen.push e.born) clock)) (q := q) (r := .mit j tk tv es rem [] true) hc (by rw [hq]; rfl) rfl (by simp) hoth
          (fun o v hv => by simp only [ptRel, hq] at hv; simp [ptRel, hv]) (fun v hv => by simp only [mpRel, hq] at hv; simp [mpRel, hv])
          (fun hle => ⟨ents, clock, seen.push e.born, by
              show (w.heap.setIfInBounds (loc q).off _)[(loc q).blk]? = _
              rw [hoth _ (Ne.symm haux)]; exact hb2, RelE_mono hle.S _ _ _ _ hr, hst, by simp [view, hlt], by
              refine IterAt_mono hle.S ⟨i, ?_, ?_, x, g1, e, ?_, by simp, g2⟩
              · exact (List.getElem?_eq_some_iff.1 g1).1
              · rw [left_push hst.2.1 hi]; exact g3
              · exact (List.mem_filter.1 he).1, hnS⟩)
        rw [← setR_reg] at hcm
        refine ⟨rfl, _, _, hrun, ⟨hsm.1, hsm.2⟩, loc, S, by rw [hset]; exact hcm.1, by rw [hset]; exact hcm.2, ?_⟩
        exact ⟨[_, _, _], rfl, _, _, rfl, rfl, _, _, rfl, trivial, _, _, rfl, trivial, rfl⟩
    · exact (go_fail h).elim
  all_goals exact (go_fail h).elim

theorem val_det {S S' h h'} {t : Tc} {x y : t.den} {v u : Value} (hf : t.flat = true) (hx : RelVal S h t x v) (hy : RelVal S' h' t y u) : t.beq y x = true ↔ u = v := by
  have hd := RelD_det t x y _ _ hf (RelVal_cells hx) (RelVal_cells hy)
  rw [hd]
  cases t with
  | int k => cases hx; cases hy; simp [Value.cells]
  | bool => cases hx; cases hy; simp [Value.cells]
  | str => cases hx; cases hy; simp [Value.cells]
  | slice t => simp [Tc.flat] at hf
  | pair a b => exact hx.elim
  | st t =>
    obtain ⟨cx, rfl, _⟩ := hx
    obtain ⟨cy, rfl, _⟩ := hy
    simp [Value.cells]

theorem find_val {S h} {tk tv : Tc} (hf : tk.flat = true) : ∀ (l : List (tk.den × tv.den)) (es : List MapEntry), RelE S h tk tv l es → (es.map (·.key)).Nodup → ∀ (x : tk.den) (y : tv.den) (e : MapEntry), e ∈ es → RelVal S h tk x e.key → mapFind tk tv x l = some y → RelVal S h tv y e.val
  | [], _, hr, _, x, y, e, he, _, _ => by cases hr; cases he
  | p :: l, _, ⟨e0, es, h0, h1, h2, h3⟩, hn, x, y, e, he, hx, hy => by
    subst h0
    simp only [List.map_cons, List.nodup_cons] at hn
    have hb := val_det hf hx h1
    rcases List.mem_cons.1 he with rfl | he'
    · simp only [mapFind, hb.2 rfl, cond_true, Option.some.injEq] at hy
      subst hy; exact h2
    · have hne : e0.key ≠ e.key := fun q => hn.1 (q ▸ List.mem_map.2 ⟨e, he', rfl⟩)
      have hf' : tk.beq p.1 x = false := by
        cases hq : tk.beq p.1 x with
        | false => rfl
        | true => exact absurd (hb.1 hq) hne
      simp only [mapFind, hf', cond_false] at hy
      exact find_val hf l es h3 hn.2 x y e he' hx hy

theorem entry_ok {P : Program} {en : Ent} {loc S} {x v : FV} {ux : Value} {fr fr1 : Fr} {w : World} (h : (entryV x).go fr = some (v, fr1)) (hc : Ctx en fr.reg loc S w.heap)
    (hx : RelV (view fr.reg loc S w.heap) x ux) :
    fr1.slots = fr.slots ∧ ∃ u, (Instr.entry ux).run P w = .ok u w ∧ Good en fr.reg loc S w.heap fr1.reg w.heap v u := by
  unfold entryV at h
  cases x
  case ptr q o =>
    simp only at h
    split at h
    · rename_i ho
      subst ho
      have hx' : ptRel fr.reg loc q 0 ux := hx
      simp only [Pr.go] at h
      have hreg := hc.core.reg q
      cases hq : fr.reg q <;> rw [hq] at h hreg <;> first | exact (go_fail h).elim | skip
      rename_i j tk tv es rem cur pend
      simp only at h
      split at h
      · rename_i x
        replace h := go_guard h; obtain ⟨hp, h⟩ := h
        simp only [Bool.and_eq_true, Bool.not_eq_true'] at hp
        obtain ⟨hp', hflat⟩ := hp
        subst hp'
        replace h := go_popt h; obtain ⟨y, hy, h⟩ := h
        simp only [Pr.go, Option.some.injEq, Prod.mk.injEq] at h
        obtain ⟨rfl, rfl⟩ := h
        simp only [ptRel, hq] at hx'; subst hx'
        obtain ⟨ents, clock, seen, hb, hr, hst, hit, hia, hnS⟩ := hreg
        have hb2 : w.heap[(loc q).blk]? = some (.map ents clock) := hb
        have hit2 : w.heap[(loc q).off]? = some (.mapIter (some (loc q).blk) clock seen clock) := hit
        obtain ⟨e, he, hback, hkx⟩ := hia.2 x rfl
        have hfe : ents.find? (·.born == e.born) = some e := by rw [← Array.find?_toList]; exact find_born e ents.toList hst.2.1 he
        have hval := find_val hflat _ _ hr hst.2.2 x y e he hkx hy
        have hk : owns (loc q) (fr.reg q) := by rw [hq]; trivial
        have haux : (loc q).off ≠ (loc q).blk := aux_ne hc.core (by rw [hq]; rfl) hk
        have hcm := ctx_aux (h' := w.heap) (q := q) (r := .mit j tk tv es rem [] false) hc (by rw [hq]; rfl) rfl rfl (fun _ _ => rfl)
          (fun o v hv => by simp only [ptRel, hq] at hv; simp [ptRel, hv]) (fun v hv => by simp only [mpRel, hq] at hv; simp [mpRel, hv])
          (fun hle => ⟨ents, clock, seen, hb2, RelE_mono hle.S _ _ _ _ hr, hst, hit2, IterAt_mono hle.S ⟨hia.1, fun x hx => by cases hx⟩, hnS⟩)
        rw [← setR_reg] at hcm
        refine ⟨rfl, .tuple #[e.key, e.val], ?_, loc, S, hcm.1, hcm.2, ⟨[e.key, e.val], rfl, _, _, rfl, RelVal_mono hcm.2.S _ _ _ hkx, _, _, rfl, RelVal_mono hcm.2.S _ _ _ hval, rfl⟩⟩
        simp only [Instr.entry, getObj, Sem.run_bind, Sem.run, hit2, hb2, Result.andThen, hback, bne_self_eq_false, Bool.false_eq_true, if_false, hfe]
        rfl
      · exact (go_fail h).elim
    · exact (go_fail h).elim
  all_goals exact (go_fail h).elim

end Go.Ev

set_option linter.unusedSimpArgs false
set_option linter.unusedVariables false
namespace Go.Ev
open Go

/-! ### regions by other numbers -/
theorem ren_sl {rg rg' : Nat → Reg} {loc loc' : Nat → Loc} {S S' : Nat → Prop} {h h' : Array Obj} {ρ : Nat → Option Nat} {k j : Nat} {v : Value} (hS : ∀ b, S b → S' b ∧ h'[b]? = h[b]?)
    (hj : rg' j = (rg k).ren ρ ∧ loc' j = loc k) (hr : slRel rg loc S h k v) : slRel rg' loc' S' h' j v := by
  unfold slRel at hr ⊢
  rw [hj.1, hj.2]
  cases hq : rg k <;> rw [hq] at hr <;> simp only [Reg.ren] at hr ⊢
  · exact hr
  · exact RelD_mono hS _ _ _ hr
  · split <;> first | trivial | (rename_i h; split at h <;> cases h)

theorem ren_pt {rg rg' : Nat → Reg} {loc loc' : Nat → Loc} {ρ : Nat → Option Nat} {k j o : Nat} {v : Value} (hj : rg' j = (rg k).ren ρ ∧ loc' j = loc k) (hr : ptRel rg loc k o v) : ptRel rg' loc' j o v := by
  unfold ptRel at hr ⊢
  rw [hj.1, hj.2]
  cases hq : rg k <;> rw [hq] at hr <;> simp only [Reg.ren] at hr ⊢
  · exact hr
  · split <;> first | trivial | (rename_i h; split at h <;> cases h)
  · exact hr

theorem ren_el {rg rg' : Nat → Reg} {loc loc' : Nat → Loc} {S S' : Nat → Prop} {h h' : Array Obj} {ρ : Nat → Option Nat} {k j i o : Nat} {v : Value} (hS : ∀ b, S b → S' b ∧ h'[b]? = h[b]?)
    (hj : rg' j = (rg k).ren ρ ∧ loc' j = loc k) (hr : elRel rg loc S h k i o v) : elRel rg' loc' S' h' j i o v := by
  unfold elRel at hr ⊢
  rw [hj.1, hj.2]
  cases hq : rg k <;> rw [hq] at hr <;> simp only [Reg.ren] at hr ⊢
  · exact hr
  · exact fun hm => ⟨RelD_mono hS _ _ _ (hr hm).1, (hr hm).2⟩
  · split <;> first | trivial | (rename_i h; split at h <;> cases h)

theorem ren_mp {rg rg' : Nat → Reg} {loc loc' : Nat → Loc} {ρ : Nat → Option Nat} {k j : Nat} {v : Value} (hj : rg' j = (rg k).ren ρ ∧ loc' j = loc k) (hr : mpRel rg loc k v) : mpRel rg' loc' j v := by
  unfold mpRel at hr ⊢
  rw [hj.1, hj.2]
  cases hq : rg k <;> rw [hq] at hr <;> simp only [Reg.ren] at hr ⊢
  · exact hr
  · rename_i i
    cases ρ i with
    | none => trivial
    | some _ => exact hr
  · exact hr

/-- What one view tells of numbers tells another one of new numbers. -/
structure Moves (V V' : Vw) (ρ : Nat → Option Nat) : Prop where
  sl : ∀ k j v, ρ k = some j → V.sl k v → V'.sl j v
  pt : ∀ k j o v, ρ k = some j → V.pt k o v → V'.pt j o v
  el : ∀ k j i o v, ρ k = some j → V.el k i o v → V'.el j i o v
  mp : ∀ k j v, ρ k = some j → V.mp k v → V'.mp j v

mutual
theorem RelV_ren {V V' : Vw} {ρ : Nat → Option Nat} (hm : Moves V V' ρ) (hS : ∀ b, V.S b → V'.S b ∧ V'.h[b]? = V.h[b]?) : ∀ (v : FV) (u : Value), RelV V v u → RelV V' (v.ren ρ) u
  | .undef, _, _ => trivial
  | .skp, _, e => e
  | .dat t x, v, e => RelVal_mono hS t x v e
  | .nil0, _, e => e
  | .nilm, _, e => e
  | .nilp, _, e => e
  | .nilf, _, e => e
  | .nili, _, e => e
  | .ub, _, e => e
  | .slc k, v, e => by
    simp only [FV.ren]
    cases h : ρ k with
    | none => trivial
    | some j => exact hm.sl k j v h e
  | .ptr k o, v, e => by
    simp only [FV.ren]
    cases h : ρ k with
    | none => trivial
    | some j => exact hm.pt k j o v h e
  | .ep k i o, v, e => by
    simp only [FV.ren]
    cases h : ρ k with
    | none => trivial
    | some j => exact hm.el k j i o v h e
  | .fp t x, v, ⟨ad, cs, e1, e2, e3, e4, e5⟩ => ⟨ad, cs, e1, e2, (hS _ e3).1, RelD_mono hS _ _ _ e4, fun j u hj => by
      have := e5 j u hj
      unfold cellAt at this ⊢
      rw [(hS _ e3).2]; exact this⟩
  | .mp k, v, e => by
    simp only [FV.ren]
    cases h : ρ k with
    | none => trivial
    | some j => exact hm.mp k j v h e
  | .agg l, _, ⟨vs, e, h, ho⟩ => ⟨vs, e, RelVs_ren hm hS l vs h, ho⟩
  | .tup l, _, ⟨vs, e, h⟩ => ⟨vs, e, RelVs_ren hm hS l vs h⟩
  | .clos _ l, _, ⟨vs, e, h⟩ => ⟨vs, e, RelVs_ren hm hS l vs h⟩
theorem RelVs_ren {V V' : Vw} {ρ : Nat → Option Nat} (hm : Moves V V' ρ) (hS : ∀ b, V.S b → V'.S b ∧ V'.h[b]? = V.h[b]?) : ∀ (l : List FV) (us : List Value), RelVs V l us → RelVs V' (renL ρ l) us
  | [], _, e => e
  | v :: l, _, ⟨u, us, e, h1, h2⟩ => ⟨u, us, e, RelV_ren hm hS v u h1, RelVs_ren hm hS l us h2⟩
end

theorem RelD_flat {S S' : Nat → Prop} {h h' : Array Obj} : ∀ (t : Tc) (x : t.den) (cs : List Value), t.flat = true → RelD S h t x cs → RelD S' h' t x cs
  | .int _, _, _, _, e => e
  | .bool, _, _, _, e => e
  | .str, _, _, _, e => e
  | .slice t, _, _, hf, _ => by simp [Tc.flat] at hf
  | .pair a b, x, _, hf, ⟨c1, c2, e, h1, h2⟩ => by
    simp [Tc.flat] at hf
    exact ⟨c1, c2, e, RelD_flat a _ _ hf.1 h1, RelD_flat b _ _ hf.2 h2⟩
  | .st t, x, cs, hf, e => RelD_flat t x cs hf e

theorem RelVal_flat {S S' : Nat → Prop} {h h' : Array Obj} (t : Tc) (x : t.den) (v : Value) (hf : t.flat = true) (e : RelVal S h t x v) : RelVal S' h' t x v := by
  cases t with
  | st t => obtain ⟨cs, e1, e2⟩ := e; exact ⟨cs, e1, RelD_flat _ _ _ hf e2⟩
  | pair a b => exact e
  | _ => exact RelD_flat (S := S) (h := h) _ _ _ hf e

theorem RelE_flat {S S' : Nat → Prop} {h h' : Array Obj} (tk tv : Tc) (hk : tk.flat = true) (hv : tv.flat = true) : ∀ (l : List (tk.den × tv.den)) (es : List MapEntry), RelE S h tk tv l es → RelE S' h' tk tv l es
  | [], _, e => e
  | x :: l, _, ⟨e, es', h0, h1, h2, h3⟩ => ⟨e, es', h0, RelVal_flat _ _ _ hk h1, RelVal_flat _ _ _ hv h2, RelE_flat tk tv hk hv l es' h3⟩

mutual
theorem RelV_renF {V V' : Vw} {ρ : Nat → Option Nat} (hm : Moves V V' ρ) : ∀ (v : FV) (u : Value), v.noS = true → RelV V v u → RelV V' (v.ren ρ) u
  | .undef, _, _, _ => trivial
  | .skp, _, _, e => e
  | .dat t x, v, hf, e => RelVal_flat t x v hf e
  | .nil0, _, _, e => e
  | .nilm, _, _, e => e
  | .nilp, _, _, e => e
  | .nilf, _, _, e => e
  | .nili, _, _, e => e
  | .ub, _, _, e => e
  | .slc k, v, _, e => by
    simp only [FV.ren]
    cases h : ρ k with
    | none => trivial
    | some j => exact hm.sl k j v h e
  | .ptr k o, v, _, e => by
    simp only [FV.ren]
    cases h : ρ k with
    | none => trivial
    | some j => exact hm.pt k j o v h e
  | .ep k i o, v, hf, e => by simp [FV.noS] at hf
  | .fp t x, v, hf, _ => by simp [FV.noS] at hf
  | .mp k, v, hf, e => by simp [FV.noS] at hf
  | .agg l, _, hf, ⟨vs, e, h, ho⟩ => ⟨vs, e, RelVs_renF hm l vs hf h, ho⟩
  | .tup l, _, hf, ⟨vs, e, h⟩ => ⟨vs, e, RelVs_renF hm l vs hf h⟩
  | .clos _ l, _, hf, _ => by simp [FV.noS] at hf
theorem RelVs_renF {V V' : Vw} {ρ : Nat → Option Nat} (hm : Moves V V' ρ) : ∀ (l : List FV) (us : List Value), noSL l = true → RelVs V l us → RelVs V' (renL ρ l) us
  | [], _, _, e => e
  | v :: l, _, hf, ⟨u, us, e, h1, h2⟩ => by
    simp [noSL] at hf
    exact ⟨u, us, e, RelV_renF hm v u hf.1 h1, RelVs_renF hm l us hf.2 h2⟩
end

theorem owns_ren {l : Loc} {r : Reg} {ρ : Nat → Option Nat} : owns l (r.ren ρ) ↔ owns l r := by
  cases r <;> simp only [Reg.ren, owns]
  rename_i j
  cases ρ j <;> simp [owns]

theorem aux_ren {r : Reg} {ρ : Nat → Option Nat} : (r.ren ρ).aux = r.aux := by
  cases r <;> try rfl
  rename_i j
  simp only [Reg.ren]
  cases ρ j <;> rfl

theorem RelR_ren {V V' : Vw} {ρ : Nat → Option Nat} {l : Loc} {r : Reg} (hm : Moves V V' ρ) (hS : ∀ b, V.S b → V'.S b ∧ V'.h[b]? = V.h[b]?) (hb : owns l r → V'.h[l.blk]? = V.h[l.blk]?) (ha : r.aux = true → V'.h[l.off]? = V.h[l.off]? ∧ (V'.S l.off → V.S l.off)) (hr : RelR V l r) : RelR V' l (r.ren ρ) := by
  cases r with
  | box cells =>
    obtain ⟨c, e, h1, h2, h3⟩ := hr
    exact ⟨c, e, by rw [hb trivial]; exact h1, RelVs_ren hm hS _ _ h2, h3⟩
  | arr t xs =>
    rcases hr with ⟨h1, h2⟩ | ⟨h1, c, e, h2, h3, h4, h5⟩
    · exact .inl ⟨h1, h2⟩
    · refine .inr ⟨h1, c, e, by rw [hb h1]; exact h2, h3, h4, fun i x hx => ?_⟩
      obtain ⟨ecs, g1, g2⟩ := h5 i x hx
      exact ⟨ecs, RelD_mono hS _ _ _ g1, g2⟩
  | map tk tv es =>
    obtain ⟨ents, clock, h1, h2, h3⟩ := hr
    exact ⟨ents, clock, by rw [hb trivial]; exact h1, RelE_mono hS _ _ _ _ h2, h3⟩
  | fwd j =>
    simp only [Reg.ren]
    cases h : ρ j with
    | none => trivial
    | some i => exact hm.mp j i _ h hr
  | mit k tk tv es rem cur pend =>
    obtain ⟨ents, clock, seen, h1, h2, h3, h4, h5, h6⟩ := hr
    exact ⟨ents, clock, seen, by rw [hb trivial]; exact h1, RelE_mono hS _ _ _ _ h2, h3, by rw [(ha rfl).1]; exact h4, IterAt_mono hS h5, fun hs => h6 ((ha rfl).2 hs)⟩
  | _ => trivial

theorem RelR_renF {V V' : Vw} {ρ : Nat → Option Nat} {l : Loc} {r : Reg} (hm : Moves V V' ρ) (hf : r.noS = true) (hb : owns l r → V'.h[l.blk]? = V.h[l.blk]?) (ha : r.aux = true → V'.h[l.off]? = V.h[l.off]? ∧ (V'.S l.off → V.S l.off)) (hr : RelR V l r) : RelR V' l (r.ren ρ) := by
  cases r with
  | box cells =>
    obtain ⟨c, e, h1, h2, h3⟩ := hr
    exact ⟨c, e, by rw [hb trivial]; exact h1, RelVs_renF hm _ _ hf h2, h3⟩
  | arr t xs =>
    rcases hr with ⟨h1, h2⟩ | ⟨h1, c, e, h2, h3, h4, h5⟩
    · exact .inl ⟨h1, h2⟩
    · refine .inr ⟨h1, c, e, by rw [hb h1]; exact h2, h3, h4, fun i x hx => ?_⟩
      obtain ⟨ecs, g1, g2⟩ := h5 i x hx
      exact ⟨ecs, RelD_flat _ _ _ hf g1, g2⟩
  | map tk tv es =>
    obtain ⟨ents, clock, h1, h2, h3⟩ := hr
    simp only [Reg.noS, Bool.and_eq_true] at hf
    exact ⟨ents, clock, by rw [hb trivial]; exact h1, RelE_flat _ _ hf.1 hf.2 _ _ h2, h3⟩
  | fwd j => simp [Reg.noS] at hf
  | mit k tk tv es rem cur pend => simp [Reg.noS] at hf
  | _ => trivial

/-! ### lists of numbers -/
theorem mem_iff {k : Nat} {l : List Nat} : mem k l = true ↔ k ∈ l := by
  simp [mem, List.any_eq_true]

theorem posIn_some {l : List Nat} {k j : Nat} (h : posIn l k = some j) : l[j]? = some k := by
  induction l generalizing j with
  | nil => simp [posIn] at h
  | cons x l ih =>
    simp only [posIn] at h
    by_cases hx : x = k
    · subst hx; simp at h; subst h; simp
    · have : Nat.beq x k = false := by
        cases e : Nat.beq x k
        · rfl
        · exact absurd (Nat.eq_of_beq_eq_true e) hx
      rw [this] at h
      simp only [cond_false, Option.map_eq_some_iff] at h
      obtain ⟨i, hi, rfl⟩ := h
      simpa using ih hi

theorem posIn_of {l : List Nat} (hn : l.Nodup) {k j : Nat} (h : l[j]? = some k) : posIn l k = some j := by
  induction l generalizing j with
  | nil => simp at h
  | cons x l ih =>
    rw [List.nodup_cons] at hn
    cases j with
    | zero => simp at h; subst h; simp [posIn]
    | succ j =>
      simp at h
      have hne : x ≠ k := by
        intro e; subst e
        exact hn.1 (List.mem_of_getElem? h)
      have : Nat.beq x k = false := by
        cases e : Nat.beq x k
        · rfl
        · exact absurd (Nat.eq_of_beq_eq_true e) hne
      simp [posIn, this, ih hn.2 h]

theorem collect_ok : ∀ (n : Nat) (todo acc ids : List Nat) (fr fr1 : Fr), (collect n todo acc).go fr = some (ids, fr1) → acc.Nodup → fr1 = fr ∧ ids.Nodup
  | n, [], acc, ids, fr, fr1, h, ha => by
    have : collect n [] acc = .ret acc := by cases n <;> rfl
    rw [this] at h
    obtain ⟨rfl, rfl⟩ := go_ret h
    exact ⟨rfl, ha⟩
  | 0, k :: todo, acc, ids, fr, fr1, h, ha => (go_fail h).elim
  | n + 1, k :: todo, acc, ids, fr, fr1, h, ha => by
    simp only [collect] at h
    cases hm : mem k acc with
    | true => rw [hm] at h; exact collect_ok n todo acc ids fr fr1 h ha
    | false =>
      rw [hm] at h
      have hk : k ∉ acc := fun hk => by rw [mem_iff.2 hk] at hm; cases hm
      have ha' : (acc ++ [k]).Nodup := by
        rw [List.nodup_append]
        exact ⟨ha, by simp, fun a ha b hb => by simp at hb; subst hb; exact fun e => hk (e ▸ ha)⟩
      simp only [cond_false, Pr.go] at h
      split at h <;> exact collect_ok n _ _ ids fr fr1 h ha'

theorem getRs_ok : ∀ (l : List Nat) (rs : List Reg) (fr fr1 : Fr), (getRs l).go fr = some (rs, fr1) → fr1 = fr ∧ rs = l.map fr.reg
  | [], rs, fr, fr1, h => by obtain ⟨rfl, rfl⟩ := go_ret h; exact ⟨rfl, rfl⟩
  | k :: l, rs, fr, fr1, h => by
    simp only [getRs, Pr.go] at h
    replace h := Pr.go_bind_some h; obtain ⟨ms, fr2, h1, h⟩ := h
    obtain ⟨rfl, rfl⟩ := getRs_ok l ms fr fr2 h1
    obtain ⟨rfl, rfl⟩ := go_ret h
    exact ⟨rfl, rfl⟩

theorem numbered_at : ∀ (l : List Reg) (n j : Nat), regAt (numbered n l) j = if n ≤ j then l.getD (j - n) .abs else .abs
  | [], n, j => by simp [numbered, regAt]
  | r :: l, n, j => by
    simp only [numbered, regAt]
    by_cases h : n = j
    · subst h; simp
    · have : Nat.beq n j = false := by
        cases e : Nat.beq n j
        · rfl
        · exact absurd (Nat.eq_of_beq_eq_true e) h
      rw [this, numbered_at l (n + 1) j]
      simp only [cond_false]
      by_cases h2 : n + 1 ≤ j
      · rw [if_pos h2, if_pos (by omega)]
        obtain ⟨m, rfl⟩ : ∃ m, j = n + 1 + m := ⟨j - (n + 1), by omega⟩
        simp [show n + 1 + m - (n + 1) = m by omega, show n + 1 + m - n = m + 1 by omega]
      · rw [if_neg h2, if_neg (by omega)]

theorem allAbs_ok : ∀ (l : List Nat) (fr fr1 : Fr) (q : Unit), (allAbs l).go fr = some (q, fr1) → fr1 = fr ∧ ∀ k ∈ l, fr.reg k = .abs
  | [], fr, fr1, q, h => by obtain ⟨rfl, rfl⟩ := go_ret h; exact ⟨rfl, by simp⟩
  | k :: l, fr, fr1, q, h => by
    simp only [allAbs, Pr.go] at h
    cases hk : fr.reg k <;> rw [hk] at h <;> first | exact (go_fail h).elim | skip
    obtain ⟨rfl, h2⟩ := allAbs_ok l fr fr1 q h
    refine ⟨rfl, fun j hj => ?_⟩
    rcases List.mem_cons.1 hj with rfl | hj
    · exact hk
    · exact h2 j hj

def ovr : List (Nat × Reg) → (Nat → Reg) → Nat → Reg
  | [], rg => rg
  | (k, r) :: l, rg => ovr l fun i => if i = k then r else rg i

theorem setRs_ok : ∀ (l : List (Nat × Reg)) (fr fr1 : Fr) (q : Unit), (setRs l).go fr = some (q, fr1) → fr1.slots = fr.slots ∧ fr1.reg = ovr l fr.reg
  | [], fr, fr1, q, h => by obtain ⟨rfl, rfl⟩ := go_ret h; exact ⟨rfl, rfl⟩
  | (k, r) :: l, fr, fr1, q, h => by
    simp only [setRs, Pr.go] at h
    obtain ⟨h1, h2⟩ := setRs_ok l _ fr1 q h
    exact ⟨h1, by rw [h2, setR_reg]; rfl⟩

theorem ovr_not : ∀ (l : List (Nat × Reg)) (rg : Nat → Reg) (k : Nat), (∀ p ∈ l, p.1 ≠ k) → ovr l rg k = rg k
  | [], _, _, _ => rfl
  | (i, r) :: l, rg, k, h => by
    simp only [ovr]
    rw [ovr_not l _ k fun p hp => h p (by simp [hp])]
    rw [if_neg (h (i, r) (by simp)).symm]

theorem ovr_in : ∀ (l : List (Nat × Reg)) (rg : Nat → Reg) (k : Nat) (r : Reg), (∃ p ∈ l, p.1 = k) → (∀ p ∈ l, p.1 = k → p.2 = r) → ovr l rg k = r
  | [], _, _, _, h, _ => by simp at h
  | (i, x) :: l, rg, k, r, h, hall => by
    simp only [ovr]
    by_cases hl : ∃ p ∈ l, p.1 = k
    · exact ovr_in l _ k r hl fun p hp => hall p (by simp [hp])
    · rw [ovr_not l _ k fun p hp e => hl ⟨p, hp, e⟩]
      obtain ⟨p, hp, he⟩ := h
      rcases List.mem_cons.1 hp with rfl | hp
      · simp at he; subst he
        simp; exact hall (i, x) (by simp) rfl
      · exact absurd ⟨p, hp, he⟩ hl

end Go.Ev

set_option linter.unusedSimpArgs false
set_option linter.unusedVariables false
namespace Go.Ev
open Go

/-! ### what is lent -/
def lentS (S : Nat → Prop) (loc : Nat → Loc) (rg : Nat → Reg) (L : List Nat) : Nat → Prop := fun b => S b ∨ ∃ k ∈ L, owns (loc k) (rg k) ∧ (loc k).blk = b

theorem view_leS {rg loc S S' h} (hS : ∀ b, S b → S' b) : (view rg loc S h).le (view rg loc S' h) := by
  have hSS : ∀ b, S b → S' b ∧ h[b]? = h[b]? := fun b hb => ⟨hS b hb, rfl⟩
  refine ⟨fun k v e => ?_, fun _ _ _ e => e, fun k i o v e => ?_, fun _ _ e => e, hSS⟩
  · simp only [view, slRel] at e ⊢
    cases hq : rg k with
    | frz t xs => rw [hq] at e; exact RelD_mono hSS _ _ _ e
    | _ => rw [hq] at e; exact e
  · simp only [view, elRel] at e ⊢
    cases hq : rg k with
    | frz t xs => rw [hq] at e; exact fun hm => ⟨RelD_mono hSS _ _ _ (e hm).1, (e hm).2⟩
    | _ => rw [hq] at e; exact e

theorem lendAt_ok {t : Tc} {k : Nat} {fr fr1 : Fr} {xs : List t.den} {loc S S'} {h : Array Obj} (hg : (takeAt false t k).go fr = some (xs, fr1)) (hc : Core fr.reg loc S h)
    (hS : ∀ b, S b → S' b) (hk : owns (loc k) (fr.reg k) → S' (loc k).blk) {v : Value} (hv : slRel fr.reg loc S h k v) : fr1 = fr ∧ RelD S' h (.slice t) xs [v] := by
  simp only [takeAt, Pr.go] at hg
  have hSS : ∀ b, S b → S' b ∧ h[b]? = h[b]? := fun b hb => ⟨hS b hb, rfl⟩
  cases hr : fr.reg k with
  | arr t' ys =>
    simp only [hr, Bool.false_eq_true, if_false] at hg
    split at hg
    · rename_i e
      subst e
      obtain ⟨rfl, rfl⟩ := go_ret hg
      refine ⟨rfl, ?_⟩
      simp only [slRel, hr] at hv; subst hv
      have hreg := hc.reg k
      rw [hr] at hreg
      rcases hreg with ⟨hn, rfl⟩ | ⟨hn, c, ce, hb, q1, q2, q3⟩
      · exact ⟨(loc k).base, 0, by simp [hdl, hn], by simp, fun i x hx => by simp at hx⟩
      · refine ⟨some ⟨(loc k).blk, (loc k).off, none⟩, (loc k).cap, by simp [hdl, hn], q1, fun i x hx => ?_⟩
        obtain ⟨ecs, g1, g2⟩ := q3 i x hx
        refine ⟨_, rfl, rfl, hk (by rw [hr]; exact hn), ecs, RelD_mono hSS _ _ _ g1, fun j u hu => ?_⟩
        have hb' : h[(loc k).blk]? = some (.cells c ce (0, 0)) := hb
        rw [cell_blk hb']
        exact g2 j u hu
    · exact (go_fail hg).elim
  | frz t' ys =>
    simp only [hr] at hg
    split at hg
    · rename_i e
      subst e
      obtain ⟨rfl, rfl⟩ := go_ret hg
      refine ⟨rfl, ?_⟩
      simp only [slRel, hr] at hv
      exact RelD_mono hSS _ _ _ hv
    · exact (go_fail hg).elim
  | _ => simp [hr, Pr.go] at hg

theorem lendL_ok {loc S S'} {h : Array Obj} (hS : ∀ b, S b → S' b) : ∀ (t : Tc) (l : List FV) {fr fr1 : Fr} {p : t.den × List FV} {us : List Value}, (closeL false t l).go fr = some (p, fr1) →
    Core fr.reg loc S h → (∀ k ∈ idsL l, owns (loc k) (fr.reg k) → S' (loc k).blk) → RelVs (view fr.reg loc S h) l us →
    fr1 = fr ∧ (∃ m, l = m ++ p.2) ∧ ∃ cs us', us = cs ++ us' ∧ RelD S' h t p.1 cs ∧ RelVs (view fr.reg loc S h) p.2 us'
  | .pair a b, l, fr, fr1, p, us, hg, hc, hk, hr => by
    simp only [closeL] at hg
    replace hg := Pr.go_bind_some hg; obtain ⟨q, fr2, h1, hg⟩ := hg
    replace hg := Pr.go_bind_some hg; obtain ⟨q2, fr3, h3, hg⟩ := hg
    obtain ⟨rfl, rfl⟩ := go_ret hg
    obtain ⟨rfl, ⟨m1, rfl⟩, c1, u1, rfl, g4, g5⟩ := lendL_ok hS a l h1 hc hk hr
    have hk2 : ∀ k ∈ idsL q.2, owns (loc k) (fr2.reg k) → S' (loc k).blk := fun k hk' => hk k (by
      have : ∀ (x y : List FV), ∀ k ∈ idsL y, k ∈ idsL (x ++ y) := by
        intro x y k hky
        induction x with
        | nil => exact hky
        | cons v x ih => simp only [List.cons_append, idsL, List.mem_append]; exact .inr ih
      exact this m1 q.2 k hk')
    obtain ⟨rfl, ⟨m2, e2⟩, c2, u2, rfl, k4, k5⟩ := lendL_ok hS b _ h3 hc hk2 g5
    exact ⟨rfl, ⟨m1 ++ m2, by rw [List.append_assoc, ← e2]⟩, c1 ++ c2, u2, by rw [List.append_assoc], ⟨c1, c2, rfl, g4, k4⟩, k5⟩
  | .st t, l, fr, fr1, p, us, hg, hc, hk, hr => lendL_ok hS t l hg hc hk hr
  | .slice t, [], fr, fr1, p, us, hg, hc, hk, hr => by simp [closeL, Pr.go] at hg
  | .slice t, v :: l, fr, fr1, p, us, hg, hc, hk, hr => by
    obtain ⟨u, us', rfl, r1, r2⟩ := hr
    simp only [closeL] at hg
    split at hg
    · rename_i k
      replace hg := Pr.go_bind_some hg; obtain ⟨xs, fr2, h1, hg⟩ := hg
      obtain ⟨rfl, rfl⟩ := go_ret hg
      obtain ⟨rfl, g4⟩ := lendAt_ok h1 hc hS (hk k (by simp [idsL, FV.ids])) r1
      exact ⟨rfl, ⟨[.slc k], rfl⟩, [u], us', rfl, g4, r2⟩
    · obtain ⟨x, h1, h2⟩ := go_popt hg
      obtain ⟨rfl, rfl⟩ := go_ret h2
      exact ⟨rfl, ⟨[_], rfl⟩, [u], us', rfl, RelD_mono (fun b hb => ⟨hS b hb, rfl⟩) _ _ _ (asD_rel ⟨rfl, rfl⟩ h1 r1), r2⟩
  | .int k, [], fr, fr1, p, us, hg, hc, hk, hr => by simp [closeL, Pr.go] at hg
  | .int k, v :: l, fr, fr1, p, us, hg, hc, hk, hr => by
    obtain ⟨u, us', rfl, r1, r2⟩ := hr
    simp only [closeL] at hg
    obtain ⟨x, h1, h2⟩ := go_popt hg
    obtain ⟨rfl, rfl⟩ := go_ret h2
    exact ⟨rfl, ⟨[_], rfl⟩, [u], us', rfl, asD_rel (t := .int k) (S := S) (h := h) ⟨rfl, rfl⟩ h1 r1, r2⟩
  | .bool, [], fr, fr1, p, us, hg, hc, hk, hr => by simp [closeL, Pr.go] at hg
  | .bool, v :: l, fr, fr1, p, us, hg, hc, hk, hr => by
    obtain ⟨u, us', rfl, r1, r2⟩ := hr
    simp only [closeL] at hg
    obtain ⟨x, h1, h2⟩ := go_popt hg
    obtain ⟨rfl, rfl⟩ := go_ret h2
    exact ⟨rfl, ⟨[_], rfl⟩, [u], us', rfl, asD_rel (t := .bool) (S := S) (h := h) ⟨rfl, rfl⟩ h1 r1, r2⟩
  | .str, [], fr, fr1, p, us, hg, hc, hk, hr => by simp [closeL, Pr.go] at hg
  | .str, v :: l, fr, fr1, p, us, hg, hc, hk, hr => by
    obtain ⟨u, us', rfl, r1, r2⟩ := hr
    simp only [closeL] at hg
    obtain ⟨x, h1, h2⟩ := go_popt hg
    obtain ⟨rfl, rfl⟩ := go_ret h2
    exact ⟨rfl, ⟨[_], rfl⟩, [u], us', rfl, asD_rel (t := .str) (S := S) (h := h) ⟨rfl, rfl⟩ h1 r1, r2⟩

theorem lendG_ok {loc S S'} {h : Array Obj} (hS : ∀ b, S b → S' b) {t : Tc} {v : FV} {fr fr1 : Fr} {x : t.den} {u : Value} (hg : (closeG false t v).go fr = some (x, fr1)) (hc : Core fr.reg loc S h)
    (hk : ∀ k ∈ v.ids, owns (loc k) (fr.reg k) → S' (loc k).blk) (hr : RelV (view fr.reg loc S h) v u) : fr1 = fr ∧ RelVal S' h t x u := by
  unfold closeG at hg
  split at hg
  · rename_i l
    cases t with
    | st t0 =>
      simp only at hg
      obtain ⟨p, fr2, h1, h2⟩ := Pr.go_bind_some hg
      split at h2
      · rename_i hp
        obtain ⟨rfl, rfl⟩ := go_ret h2
        obtain ⟨vs, rfl, r1, r2⟩ := hr
        obtain ⟨rfl, _, cs, us', e, g4, g5⟩ := lendL_ok hS t0 l h1 hc (fun k hk' => hk k (by simpa [FV.ids] using hk')) r1
        rw [hp] at g5
        cases g5
        simp at e; subst e
        exact ⟨rfl, vs, rfl, g4⟩
      · simp [Pr.go] at h2
    | _ => simp [Pr.go] at hg
  · rename_i k
    cases t with
    | slice t0 => exact lendAt_ok hg hc hS (hk k (by simp [FV.ids])) hr
    | _ => simp [Pr.go] at hg
  · obtain ⟨y, h1, h2⟩ := go_popt hg
    obtain ⟨rfl, rfl⟩ := go_ret h2
    exact ⟨rfl, RelVal_mono (fun b hb => ⟨hS b hb, rfl⟩) _ _ _ (asD_rel ⟨rfl, rfl⟩ h1 hr)⟩

theorem argsL_ok {E : Env} {loc S S'} {h : Array Obj} (hS : ∀ b, S b → S' b) : ∀ (md : List Bool) (ts : List TypeId) (l as : List FV) (us : List Value) (fr fr1 : Fr), (argVs E false md ts l).go fr = some (as, fr1) →
    Core fr.reg loc S h → (∀ k ∈ lentIds md l, owns (loc k) (fr.reg k) → S' (loc k).blk) → RelVs (view fr.reg loc S h) l us → fr1 = fr ∧ RelVs (view fr.reg loc S' h) as us
  | true :: md, t :: ts, v :: l, as, us, fr, fr1, hg, hc, hk, hr => by
    obtain ⟨u, us', rfl, r1, r2⟩ := hr
    simp only [argVs] at hg
    replace hg := go_popt hg; obtain ⟨ti, ht, hg⟩ := hg
    replace hg := go_popt hg; obtain ⟨tc, htc, hg⟩ := hg
    replace hg := Pr.go_bind_some hg; obtain ⟨x, fr2, h1, hg⟩ := hg
    obtain ⟨rfl, g1⟩ := lendG_ok hS h1 hc (fun k hk' => hk k (by simp [lentIds, hk'])) r1
    replace hg := Pr.go_bind_some hg; obtain ⟨r, fr3, h2, hg⟩ := hg
    obtain ⟨rfl, g2⟩ := argsL_ok hS md ts l r us' _ _ h2 hc (fun k hk' => hk k (by simp [lentIds, hk'])) r2
    obtain ⟨rfl, rfl⟩ := go_ret hg
    exact ⟨rfl, u, us', rfl, g1, g2⟩
  | false :: md, t :: ts, v :: l, as, us, fr, fr1, hg, hc, hk, hr => by
    obtain ⟨u, us', rfl, r1, r2⟩ := hr
    simp only [argVs] at hg
    replace hg := Pr.go_bind_some hg; obtain ⟨r, fr3, h2, hg⟩ := hg
    obtain ⟨rfl, g2⟩ := argsL_ok hS md ts l r us' _ _ h2 hc (fun k hk' => hk k (by simpa [lentIds] using hk')) r2
    obtain ⟨rfl, rfl⟩ := go_ret hg
    exact ⟨rfl, u, us', rfl, RelV_mono (view_leS hS) _ _ r1, g2⟩
  | [], [], [], as, us, fr, fr1, hg, hc, hk, hr => by cases hr; obtain ⟨rfl, rfl⟩ := go_ret hg; exact ⟨rfl, rfl⟩
  | true :: md, [], [], as, us, fr, fr1, hg, hc, hk, hr => by cases hr; obtain ⟨rfl, rfl⟩ := go_ret hg; exact ⟨rfl, rfl⟩
  | false :: md, [], [], as, us, fr, fr1, hg, hc, hk, hr => by cases hr; obtain ⟨rfl, rfl⟩ := go_ret hg; exact ⟨rfl, rfl⟩
  | [], t :: ts, l, as, us, fr, fr1, hg, hc, hk, hr => by cases l <;> exact (go_fail hg).elim
  | [], [], v :: l, as, us, fr, fr1, hg, hc, hk, hr => (go_fail hg).elim
  | true :: md, [], v :: l, as, us, fr, fr1, hg, hc, hk, hr => (go_fail hg).elim
  | false :: md, [], v :: l, as, us, fr, fr1, hg, hc, hk, hr => (go_fail hg).elim
  | true :: md, t :: ts, [], as, us, fr, fr1, hg, hc, hk, hr => (go_fail hg).elim
  | false :: md, t :: ts, [], as, us, fr, fr1, hg, hc, hk, hr => (go_fail hg).elim

theorem argsF_ok {E : Env} {en : Ent} {loc} {h : Array Obj} : ∀ (md : List Bool) (ts : List TypeId) (l as : List FV) (us : List Value) (fr fr1 : Fr) (S : Nat → Prop), (argVs E true md ts l).go fr = some (as, fr1) →
    Ctx en fr.reg loc S h → RelVs (view fr.reg loc S h) l us →
    fr1.slots = fr.slots ∧ ∃ S1, Ctx en fr1.reg loc S1 h ∧ (view fr.reg loc S h).le (view fr1.reg loc S1 h) ∧ RelVs (view fr1.reg loc S1 h) as us
  | true :: md, t :: ts, v :: l, as, us, fr, fr1, S, hg, hc, hr => by
    obtain ⟨u, us', rfl, r1, r2⟩ := hr
    simp only [argVs] at hg
    replace hg := go_popt hg; obtain ⟨ti, ht, hg⟩ := hg
    replace hg := go_popt hg; obtain ⟨tc, htc, hg⟩ := hg
    replace hg := Pr.go_bind_some hg; obtain ⟨x, fr2, h1, hg⟩ := hg
    obtain ⟨e1, S1, g1, g2, g3⟩ := closeD_ok h1 hc r1
    replace hg := Pr.go_bind_some hg; obtain ⟨r, fr3, h2, hg⟩ := hg
    obtain ⟨e2, S2, k1, k2, k3⟩ := argsF_ok md ts l r us' _ _ S1 h2 g1 (RelVs_mono g2 _ _ r2)
    obtain ⟨rfl, rfl⟩ := go_ret hg
    exact ⟨by rw [e2, e1], S2, k1, Vw.le_trans g2 k2, u, us', rfl, RelVal_mono k2.S _ _ _ g3, k3⟩
  | false :: md, t :: ts, v :: l, as, us, fr, fr1, S, hg, hc, hr => by
    obtain ⟨u, us', rfl, r1, r2⟩ := hr
    simp only [argVs] at hg
    replace hg := Pr.go_bind_some hg; obtain ⟨r, fr3, h2, hg⟩ := hg
    obtain ⟨e2, S2, k1, k2, k3⟩ := argsF_ok md ts l r us' _ _ S h2 hc r2
    obtain ⟨rfl, rfl⟩ := go_ret hg
    exact ⟨e2, S2, k1, k2, u, us', rfl, RelV_mono k2 _ _ r1, k3⟩
  | [], [], [], as, us, fr, fr1, S, hg, hc, hr => by cases hr; obtain ⟨rfl, rfl⟩ := go_ret hg; exact ⟨rfl, S, hc, Vw.le_refl _, rfl⟩
  | true :: md, [], [], as, us, fr, fr1, S, hg, hc, hr => by cases hr; obtain ⟨rfl, rfl⟩ := go_ret hg; exact ⟨rfl, S, hc, Vw.le_refl _, rfl⟩
  | false :: md, [], [], as, us, fr, fr1, S, hg, hc, hr => by cases hr; obtain ⟨rfl, rfl⟩ := go_ret hg; exact ⟨rfl, S, hc, Vw.le_refl _, rfl⟩
  | [], t :: ts, l, as, us, fr, fr1, S, hg, hc, hr => by cases l <;> exact (go_fail hg).elim
  | [], [], v :: l, as, us, fr, fr1, S, hg, hc, hr => (go_fail hg).elim
  | true :: md, [], v :: l, as, us, fr, fr1, S, hg, hc, hr => (go_fail hg).elim
  | false :: md, [], v :: l, as, us, fr, fr1, S, hg, hc, hr => (go_fail hg).elim
  | true :: md, t :: ts, [], as, us, fr, fr1, S, hg, hc, hr => (go_fail hg).elim
  | false :: md, t :: ts, [], as, us, fr, fr1, S, hg, hc, hr => (go_fail hg).elim

end Go.Ev

set_option linter.unusedSimpArgs false
set_option linter.unusedVariables false
namespace Go.Ev
open Go

theorem regAt_mem : ∀ {l : List (Nat × Reg)} {k : Nat} {r : Reg}, regAt l k = r → r ≠ .abs → (k, r) ∈ l
  | [], k, r, h, hr => by simp [regAt] at h; exact absurd h.symm hr
  | (i, x) :: l, k, r, h, hr => by
    simp only [regAt] at h
    by_cases hi : i = k
    · subst hi; simp at h; subst h; simp
    · have : Nat.beq i k = false := by
        cases e : Nat.beq i k
        · rfl
        · exact absurd (Nat.eq_of_beq_eq_true e) hi
      rw [this] at h
      exact List.mem_cons_of_mem _ (regAt_mem h hr)

theorem bk_mem {out : Fr} {f : Nat → Option Nat} : ∀ (l : List Nat) (n : Nat) (p : Nat × Reg), p ∈ bk out f n l → ∃ j, l[j]? = some p.1 ∧ p.2 = (out.reg (n + j)).ren f
  | [], n, p, h => by simp [bk] at h
  | k :: l, n, p, h => by
    simp only [bk, List.mem_cons] at h
    rcases h with rfl | h
    · exact ⟨0, rfl, rfl⟩
    · obtain ⟨j, h1, h2⟩ := bk_mem l (n + 1) p h
      exact ⟨j + 1, by simpa using h1, by rw [h2]; congr 2; omega⟩

theorem bk_has {out : Fr} {f : Nat → Option Nat} : ∀ (l : List Nat) (n j k : Nat), l[j]? = some k → (k, (out.reg (n + j)).ren f) ∈ bk out f n l
  | [], n, j, k, h => by simp at h
  | x :: l, n, 0, k, h => by simp at h; subst h; simp [bk]
  | x :: l, n, j + 1, k, h => by
    simp at h
    have := bk_has (out := out) (f := f) l (n + 1) j k h
    simp only [bk, List.mem_cons]
    right
    rw [show n + (j + 1) = n + 1 + j by omega]; exact this

theorem nodup_get {l : List Nat} (hn : l.Nodup) {i j k : Nat} (hi : l[i]? = some k) (hj : l[j]? = some k) : i = j := by
  have := posIn_of hn hi
  have h2 := posIn_of hn hj
  rw [this] at h2; simpa using h2

set_option maxHeartbeats 1000000 in
theorem callOut_ok {en : Ent} {fr fr1 pk out : Fr} {loc locc loc' : Nat → Loc} {S S' : Nat → Prop} {h h' : Array Obj} {ids L : List Nat} {dst : Option Tmp} {v : FV} {u : Value}
    (hc : Ctx en fr.reg loc S h) (hn : ids.Nodup) (hL : ∀ k ∈ L, k ∉ ids) (hf : L = [] ∨ out.noS = true)
    (hpk : ∀ j, pk.reg j = match ids[j]? with | some k => (fr.reg k).ren (posIn ids) | none => .abs) (hlocc : ∀ j k, ids[j]? = some k → locc j = loc k)
    (hpost : Ctx (entOf pk locc (lentS S loc fr.reg L) h) out.reg loc' S' h') (hle : (view pk.reg locc (lentS S loc fr.reg L) h).le (view out.reg loc' S' h'))
    (hr : RelV (view out.reg loc' S' h') (resFV out.slots) u) (hg : (callOut dst ids out).go fr = some (v, fr1)) :
    fr1.slots = fr.slots ∧ Good en fr.reg loc S h fr1.reg h' v u := by
  unfold callOut at hg
  simp only at hg
  generalize hF : ((out.regs.filter fun p => Nat.ble ids.length p.1).map fun p => p.1) = F at hg
  split at hg
  case isFalse => exact (go_fail hg).elim
  rename_i hchk
  rw [List.all_eq_true] at hchk
  replace hg := Pr.go_bind_some hg; obtain ⟨q1, f1, h1, hg⟩ := hg
  obtain ⟨rfl, habs⟩ := allAbs_ok _ _ _ _ h1
  replace hg := Pr.go_bind_some hg; obtain ⟨q2, f2, h2, hg⟩ := hg
  obtain ⟨hs2, hr2⟩ := setRs_ok _ _ _ _ h2
  replace hg := Pr.go_bind_some hg; obtain ⟨q3, f3, h3, hg⟩ := hg
  obtain ⟨hs3, hr3⟩ := setRs_ok _ _ _ _ h3
  obtain ⟨rfl, rfl⟩ := go_ret hg
  refine ⟨by rw [hs3, hs2], ?_⟩
  rw [hr2] at hr3
  -- names
  generalize hsite : siteOf dst = site at *
  have hBlt : ∀ j k, ids[j]? = some k → backId ids site j = k := by
    intro j k hj; simp [backId, List.getD, hj]
  have hBge : ∀ j, ids.length ≤ j → backId ids site j = site + (j - ids.length) := by
    intro j hj; simp [backId, List.getD, List.getElem?_eq_none hj]
  have hFge : ∀ j ∈ F, ids.length ≤ j := by
    intro j hj
    rw [← hF, List.mem_map] at hj
    obtain ⟨p, hp, rfl⟩ := hj
    rw [List.mem_filter] at hp
    exact Nat.le_of_ble_eq_true hp.2
  have hFnot : ∀ j ∈ F, backId ids site j ∉ ids := by
    intro j hj hm
    have := hchk j hj
    simp only [Bool.and_eq_true, Bool.not_eq_true'] at this
    rw [mem_iff.2 hm] at this
    cases this.2
  have hFabs : ∀ j ∈ F, f1.reg (backId ids site j) = .abs := fun j hj => habs _ (List.mem_map.2 ⟨j, hj, rfl⟩)
  have hFin : ∀ j, ids.length ≤ j → out.reg j ≠ .abs → j ∈ F := by
    intro j hj hne
    have := regAt_mem (l := out.regs) (k := j) rfl hne
    rw [← hF, List.mem_map]
    exact ⟨_, List.mem_filter.2 ⟨this, Nat.ble_eq_true_of_le hj⟩, rfl⟩
  -- which region of the callee's lies at which number now
  let grp : Nat → Option Nat := fun k => match posIn ids k with
    | some j => some j
    | none => if site ≤ k ∧ (ids.length + (k - site)) ∈ F then some (ids.length + (k - site)) else none
  let loc1 : Nat → Loc := fun k => match grp k with
    | some j => loc' j
    | none => loc k
  have g0 : ∀ k j, grp k = some j → (ids[j]? = some k) ∨ (ids.length ≤ j ∧ j ∈ F ∧ k = backId ids site j ∧ f1.reg k = .abs) := by
    intro k j hk
    simp only [grp] at hk
    cases hp : posIn ids k with
    | some i => rw [hp] at hk; simp at hk; subst hk; exact .inl (posIn_some hp)
    | none =>
      rw [hp] at hk
      simp only at hk
      split at hk
      · rename_i hcond
        simp at hk; subst hk
        have : backId ids site (ids.length + (k - site)) = k := by rw [hBge _ (by omega)]; omega
        exact .inr ⟨by omega, hcond.2, this.symm, by have := hFabs _ hcond.2; rwa [hBge _ (by omega), show site + (ids.length + (k - site) - ids.length) = k by omega] at this⟩
      · cases hk
  have g1 : ∀ k j, grp k = some j → f3.reg k = (out.reg j).ren (fun j => some (backId ids site j)) ∧ loc1 k = loc' j ∧ backId ids site j = k := by
    intro k j hk
    refine ⟨?_, by simp only [loc1, hk], ?_⟩
    · rw [hr3]
      rcases g0 k j hk with hj | ⟨hj, hjF, rfl, _⟩
      · rw [ovr_not]
        · apply ovr_in
          · have := bk_has (out := out) (f := fun j => some (backId ids site j)) ids 0 j k hj
            exact ⟨_, this, rfl⟩
          · intro p hp he
            obtain ⟨i, hi, e⟩ := bk_mem _ _ _ hp
            rw [he] at hi
            have := nodup_get hn hi hj
            subst this
            rw [e, Nat.zero_add]
        · intro p hp
          obtain ⟨i, hi, rfl⟩ := List.mem_map.1 hp
          intro e
          exact hFnot i hi (by simp only at e; rw [e]; exact List.mem_of_getElem? hj)
      · apply ovr_in
        · exact ⟨_, List.mem_map.2 ⟨j, hjF, rfl⟩, rfl⟩
        · intro p hp he
          obtain ⟨i, hi, rfl⟩ := List.mem_map.1 hp
          simp only at he
          have hi2 := hFge i hi
          rw [hBge i hi2, hBge j hj] at he
          have : i = j := by omega
          subst this; rfl
    · rcases g0 k j hk with hj | ⟨_, _, rfl, _⟩
      · exact hBlt j k hj
      · rfl
  have g2 : ∀ k, grp k = none → f3.reg k = f1.reg k ∧ loc1 k = loc k ∧ k ∉ ids := by
    intro k hk
    have hk' := hk
    simp only [grp] at hk
    have hni : k ∉ ids := by
      intro hm
      obtain ⟨j, hj⟩ := List.mem_iff_getElem?.1 hm
      rw [posIn_of hn hj] at hk; cases hk
    refine ⟨?_, by simp only [loc1, hk'], hni⟩
    have hp : posIn ids k = none := by
      cases hp : posIn ids k with
      | none => rfl
      | some j => exact absurd (List.mem_of_getElem? (posIn_some hp)) hni
    rw [hp] at hk
    rw [hr3, ovr_not, ovr_not]
    · intro p hp he
      obtain ⟨j, hj, _⟩ := bk_mem _ _ _ hp
      exact hni (by rw [← he]; exact List.mem_of_getElem? hj)
    · intro p hp he
      obtain ⟨i, hi, rfl⟩ := List.mem_map.1 hp
      simp only at he
      have hi2 := hFge i hi
      rw [hBge i hi2] at he
      simp only at hk
      rw [if_pos ⟨by omega, by rw [show ids.length + (k - site) = i by omega]; exact hi⟩] at hk
      cases hk
  have g3 : ∀ j, out.reg j ≠ .abs → grp (backId ids site j) = some j := by
    intro j hne
    by_cases hj : j < ids.length
    · have hj' : ids[j]? = some (ids[j]) := List.getElem?_eq_getElem hj
      rw [hBlt j _ hj']
      simp only [grp]
      rw [posIn_of hn hj']
    · have hj' : ids.length ≤ j := by omega
      have hjF := hFin j hj' hne
      have hni := hFnot j hjF
      simp only [grp]
      have hp : posIn ids (backId ids site j) = none := by
        cases hp : posIn ids (backId ids site j) with
        | none => rfl
        | some i => exact absurd (List.mem_of_getElem? (posIn_some hp)) hni
      rw [hp]
      simp only
      have e : ids.length + (backId ids site j - site) = j := by rw [hBge j hj']; omega
      rw [e, if_pos ⟨by rw [hBge j hj']; omega, hjF⟩]
  -- who owned what
  have hownc : ∀ b, (entOf pk locc (lentS S loc f1.reg L) h).own b → ∃ k ∈ ids, owns (loc k) (f1.reg k) ∧ (loc k).blk = b := by
    rintro b ⟨j, hj1, hj2⟩
    rw [hpk j] at hj1
    cases hk : ids[j]? with
    | none => rw [hk] at hj1; exact hj1.elim
    | some k =>
      rw [hk] at hj1
      simp only [owns_ren] at hj1
      rw [hlocc j k hk] at hj1 hj2
      exact ⟨k, List.mem_of_getElem? hk, hj1, hj2⟩
  let S1 : Nat → Prop := fun b => S' b ∧ ¬ ∃ k ∈ L, owns (loc k) (f1.reg k) ∧ (loc k).blk = b
  have hnoS : L ≠ [] → ∀ j, (out.reg j).noS = true := by
    intro hne j
    have hno := hf.resolve_left hne
    simp only [Fr.noS, Bool.and_eq_true, List.all_eq_true] at hno
    cases hq : out.reg j with
    | abs => rfl
    | _ => exact hno.2 _ (regAt_mem (l := out.regs) (k := j) hq (by simp))
  have hSS : L = [] → ∀ b, S' b → S1 b ∧ h'[b]? = h'[b]? := by
    rintro rfl b hb
    exact ⟨⟨hb, by simp⟩, rfl⟩
  have hS : ∀ b, S b → S1 b ∧ h'[b]? = h[b]? := by
    intro b hb
    have hbc : lentS S loc f1.reg L b := .inl hb
    refine ⟨⟨hpost.keep.sub b hbc, ?_⟩, hpost.keep.same b (hc.core.bS b hb) (hpost.keep.apart b hbc)⟩
    rintro ⟨k, _, ho, rfl⟩
    exact hc.core.nS k ho hb
  have hmv : Moves (view out.reg loc' S' h') (view f3.reg loc1 S1 h') (fun j => some (backId ids site j)) := by
    have key : ∀ j m, (fun j => some (backId ids site j)) j = some m → out.reg j ≠ .abs → f3.reg m = (out.reg j).ren (fun j => some (backId ids site j)) ∧ loc1 m = loc' j := by
      intro j m hm hne
      simp at hm; subst hm
      have := g1 _ _ (g3 j hne)
      exact ⟨this.1, this.2.1⟩
    refine ⟨fun j m v hm e => ?_, fun j m o v hm e => ?_, fun j m i o v hm e => ?_, fun j m v hm e => ?_⟩
    · by_cases hne : out.reg j = .abs
      · simp [view, slRel, hne] at e
      · by_cases hLe : L = []
        · exact ren_sl (hSS hLe) (key j m hm hne) e
        · have hno := hnoS hLe j
          have hk := key j m hm hne
          simp only [view, slRel] at e ⊢
          rw [hk.1, hk.2]
          cases hq : out.reg j <;> rw [hq] at e hno <;> simp only [Reg.ren] at e ⊢
          · exact e
          · simp [Reg.noS] at hno
    · by_cases hne : out.reg j = .abs
      · simp [view, ptRel, hne] at e
      · exact ren_pt (key j m hm hne) e
    · by_cases hne : out.reg j = .abs
      · simp [view, elRel, hne] at e
      · by_cases hLe : L = []
        · exact ren_el (hSS hLe) (key j m hm hne) e
        · have hno := hnoS hLe j
          have hk := key j m hm hne
          simp only [view, elRel] at e ⊢
          rw [hk.1, hk.2]
          cases hq : out.reg j <;> rw [hq] at e hno <;> simp only [Reg.ren] at e ⊢
          · exact e
          · simp [Reg.noS] at hno
    · by_cases hne : out.reg j = .abs
      · simp [view, mpRel, hne] at e
      · exact ren_mp (v := v) (key j m hm hne) e
  have hsub : ∀ b, S b → lentS S loc f1.reg L b ∧ h[b]? = h[b]? := fun b hb => ⟨.inl hb, rfl⟩
  have hvl : (view f1.reg loc S h).le (view f3.reg loc1 S1 h') := by
    have hpkj : ∀ j k, ids[j]? = some k → pk.reg j = (f1.reg k).ren (posIn ids) ∧ locc j = loc k := fun j k hj => ⟨by rw [hpk j, hj], hlocc j k hj⟩
    refine ⟨fun k v e => ?_, fun k o v e => ?_, fun k i o v e => ?_, fun k v e => ?_, hS⟩
    · cases hgk : grp k with
      | none =>
        obtain ⟨e1, e2, _⟩ := g2 k hgk
        simp only [view, slRel] at e ⊢
        rw [e1, e2]
        cases hq : f1.reg k with
        | frz t xs => rw [hq] at e; exact RelD_mono hS _ _ _ e
        | _ => rw [hq] at e; exact e
      | some j =>
        rcases g0 k j hgk with hj | ⟨_, _, _, ha⟩
        · exact hmv.sl j k v (by simp [(g1 k j hgk).2.2]) (hle.sl j v (ren_sl hsub (hpkj j k hj) e))
        · simp [view, slRel, ha] at e
    · cases hgk : grp k with
      | none =>
        obtain ⟨e1, e2, _⟩ := g2 k hgk
        simp only [view, ptRel] at e ⊢
        rw [e1, e2]; exact e
      | some j =>
        rcases g0 k j hgk with hj | ⟨_, _, _, ha⟩
        · exact hmv.pt j k o v (by simp [(g1 k j hgk).2.2]) (hle.pt j o v (ren_pt (hpkj j k hj) e))
        · simp [view, ptRel, ha] at e
    · cases hgk : grp k with
      | none =>
        obtain ⟨e1, e2, _⟩ := g2 k hgk
        simp only [view, elRel] at e ⊢
        rw [e1, e2]
        cases hq : f1.reg k with
        | frz t xs => rw [hq] at e; exact fun hm => ⟨RelD_mono hS _ _ _ (e hm).1, (e hm).2⟩
        | _ => rw [hq] at e; exact e
      | some j =>
        rcases g0 k j hgk with hj | ⟨_, _, _, ha⟩
        · exact hmv.el j k i o v (by simp [(g1 k j hgk).2.2]) (hle.el j i o v (ren_el hsub (hpkj j k hj) e))
        · simp [view, elRel, ha] at e
    · cases hgk : grp k with
      | none =>
        obtain ⟨e1, e2, _⟩ := g2 k hgk
        simp only [view, mpRel] at e ⊢
        rw [e1, e2]; exact e
      | some j =>
        rcases g0 k j hgk with hj | ⟨_, _, _, ha⟩
        · exact hmv.mp j k v (by simp [(g1 k j hgk).2.2]) (hle.mp j v (ren_mp (v := v) (hpkj j k hj) e))
        · simp [view, mpRel, ha] at e
  -- a block of the callee's is one that was handed over, or new
  have hmine : ∀ j, owns (loc' j) (out.reg j) → (∃ k ∈ ids, owns (loc k) (f1.reg k) ∧ (loc k).blk = (loc' j).blk) ∨ h.size ≤ (loc' j).blk := by
    intro j hj
    rcases hpost.keep.mine j hj with hm | hm
    · exact .inl (hownc _ hm)
    · exact .inr hm
  have hown1 : ∀ k, owns (loc1 k) (f3.reg k) → (∃ j, grp k = some j ∧ owns (loc' j) (out.reg j) ∧ loc1 k = loc' j) ∨ (grp k = none ∧ owns (loc k) (f1.reg k) ∧ loc1 k = loc k ∧ k ∉ ids) := by
    intro k hk
    cases hgk : grp k with
    | none =>
      obtain ⟨e1, e2, e3⟩ := g2 k hgk
      rw [e1, e2] at hk
      exact .inr ⟨rfl, hk, e2, e3⟩
    | some j =>
      obtain ⟨e1, e2, e3⟩ := g1 k j hgk
      rw [e1, e2, owns_ren] at hk
      exact .inl ⟨j, rfl, hk, e2⟩
  have hsize : h.size ≤ h'.size := hpost.keep.size
  -- a block that the caller keeps and did not hand over is as it was
  have hkeepb : ∀ k, owns (loc k) (f1.reg k) → k ∉ ids → h'[(loc k).blk]? = h[(loc k).blk]? := by
    intro k hk hni
    refine hpost.keep.same _ (own_lt hc.core hk) fun hm => ?_
    obtain ⟨k', hk', ho', hb'⟩ := hownc _ hm
    exact hni (by rw [hc.core.inj k k' hk ho' hb'.symm]; exact hk')
  have hapart : ∀ k j, owns (loc k) (f1.reg k) → k ∉ ids → owns (loc' j) (out.reg j) → (loc k).blk ≠ (loc' j).blk := by
    intro k j hk hni hj e
    rcases hmine j hj with ⟨k', hk', ho', hb'⟩ | hge
    · exact hni (by rw [hc.core.inj k k' hk ho' (by rw [hb', e])]; exact hk')
    · have := own_lt hc.core hk; omega
  have hauxb : ∀ k, (f1.reg k).aux = true → h'[(loc k).off]? = h[(loc k).off]? ∧ (S1 (loc k).off → S (loc k).off) := by
    intro k ha
    have hno : ¬ (entOf pk locc (lentS S loc f1.reg L) h).own (loc k).off := by
      intro hm
      obtain ⟨k', hk', ho', hb'⟩ := hownc _ hm
      exact aux_ne hc.core ha ho' hb'.symm
    refine ⟨hpost.keep.same _ (aux_lt hc.core ha) hno, fun hs => ?_⟩
    rcases hpost.keep.src _ hs.1 with hb | hb | hb
    · rcases hb with hb | ⟨k', hk', ho', hb'⟩
      · exact hb
      · exact absurd hb'.symm (aux_ne hc.core ha ho')
    · exact absurd hb hno
    · have := aux_lt hc.core ha
      have hb' : h.size ≤ (loc k).off := hb
      omega
  refine ⟨loc1, S1, ⟨⟨fun k => ?_, fun a b ha hb hab => ?_, fun k hk => ?_, fun b hb => ?_⟩, ⟨?_, fun b hb hnb => ?_, fun b hb => ?_, fun b hb => ?_, fun k hk => ?_, hc.keep.apart, hc.keep.bnd, fun k hk => ?_⟩⟩, hvl, ?_⟩
  · cases hgk : grp k with
    | none =>
      obtain ⟨e1, e2, e3⟩ := g2 k hgk
      rw [e1, e2]
      exact RelR_mono hvl _ (fun ho => hkeepb k ho e3) (hauxb k) (hc.core.reg k)
    | some j =>
      obtain ⟨e1, e2, _⟩ := g1 k j hgk
      rw [e1, e2]
      by_cases hLe : L = []
      · exact RelR_ren hmv (hSS hLe) (fun _ => rfl) (fun _ => ⟨rfl, fun hs => hs.1⟩) (hpost.core.reg j)
      · exact RelR_renF hmv (hnoS hLe j) (fun _ => rfl) (fun _ => ⟨rfl, fun hs => hs.1⟩) (hpost.core.reg j)
  · rcases hown1 a ha with ⟨i, gi, oi, li⟩ | ⟨gi, oi, li, ni⟩ <;> rcases hown1 b hb with ⟨j, gj, oj, lj⟩ | ⟨gj, oj, lj, nj⟩
    · rw [li, lj] at hab
      have := hpost.core.inj i j oi oj hab
      subst this
      rw [← (g1 a i gi).2.2, ← (g1 b i gj).2.2]
    · rw [li, lj] at hab; exact absurd hab.symm (hapart b i oj nj oi)
    · rw [li, lj] at hab; exact absurd hab (hapart a j oi ni oj)
    · rw [li, lj] at hab; exact hc.core.inj a b oi oj hab
  · rcases hown1 k hk with ⟨j, gj, oj, lj⟩ | ⟨gj, oj, lj, nj⟩
    · rw [lj]; exact fun hb => hpost.core.nS j oj hb.1
    · rw [lj]
      rintro ⟨hb, hnl⟩
      rcases hpost.keep.src _ hb with hb | hb | hb
      · rcases hb with hb | hb
        · exact hc.core.nS k oj hb
        · exact hnl hb
      · obtain ⟨k', hk', ho', hb'⟩ := hownc _ hb
        exact nj (by rw [hc.core.inj k k' oj ho' hb'.symm]; exact hk')
      · have := own_lt hc.core oj
        have hb' : h.size ≤ (loc k).blk := hb
        omega
  · exact hpost.core.bS b hb.1
  · exact Nat.le_trans hc.keep.size hsize
  · rw [← hc.keep.same b hb hnb]
    refine hpost.keep.same b (Nat.lt_of_lt_of_le hb hc.keep.size) fun hm => ?_
    obtain ⟨k', hk', ho', hb'⟩ := hownc _ hm
    rcases hc.keep.mine k' ho' with hm' | hm'
    · exact hnb (hb' ▸ hm')
    · omega
  · exact (hS b (hc.keep.sub b hb)).1
  · rcases hpost.keep.src b hb.1 with hb' | hb' | hb'
    · rcases hb' with hb' | hb'
      · exact hc.keep.src b hb'
      · exact absurd hb' hb.2
    · obtain ⟨k', hk', ho', rfl⟩ := hownc _ hb'
      rcases hc.keep.mine k' ho' with hm' | hm'
      · exact .inr (.inl hm')
      · exact .inr (.inr hm')
    · exact .inr (.inr (Nat.le_trans hc.keep.size hb'))
  · rcases hown1 k hk with ⟨j, gj, oj, lj⟩ | ⟨gj, oj, lj, nj⟩
    · rw [lj]
      rcases hmine j oj with ⟨k', hk', ho', hb'⟩ | hge
      · rw [← hb']; exact hc.keep.mine k' ho'
      · exact .inr (Nat.le_trans hc.keep.size hge)
    · rw [lj]; exact hc.keep.mine k oj
  · cases hgk : grp k with
    | none =>
      obtain ⟨e1, e2, e3⟩ := g2 k hgk
      rw [e1] at hk; rw [e2]; exact hc.keep.auxs k hk
    | some j =>
      obtain ⟨e1, e2, _⟩ := g1 k j hgk
      rw [e1, aux_ren] at hk
      rw [e2]
      exact Nat.le_trans hc.keep.size (hpost.keep.auxs j hk)
  · by_cases hLe : L = []
    · exact RelV_ren hmv (hSS hLe) _ _ hr
    · have hno := hf.resolve_left hLe
      simp only [Fr.noS, Bool.and_eq_true] at hno
      refine RelV_renF hmv _ _ ?_ hr
      have hsl := hno.1
      cases hsl2 : out.slots with
      | nil => rfl
      | cons v l =>
        rw [hsl2] at hsl
        cases l with
        | nil => simp [noSL] at hsl; exact hsl
        | cons w l => exact hsl

end Go.Ev

set_option linter.unusedSimpArgs false
set_option linter.unusedVariables false
namespace Go.Ev
open Go

theorem callV_ok {P : Program} {E : Env} (hE : EnvOk P E) {en : Ent} {loc S} {dst : Option Tmp} {f : FuncId} {tys : List TypeId} {args caps : List FV} {us cus : List Value} {v : FV} {fr fr1 : Fr} {w : World}
    (h : (callV E dst f tys args caps).go fr = some (v, fr1)) (hG : E.gl S w.heap) (hc : Ctx en fr.reg loc S w.heap) (ha : RelVs (view fr.reg loc S w.heap) args us) (hcap : RelVs (view fr.reg loc S w.heap) caps cus) :
    fr1.slots = fr.slots ∧ Enters P f ∧ Calls P f (us ++ cus).toArray w fun e w' => ∃ u, e = .returned u ∧ Sm w w' ∧ Good en fr.reg loc S w.heap fr1.reg w'.heap v u := by
  unfold callV at h
  replace h := go_popt h; obtain ⟨sp, hsp, h⟩ := h
  obtain ⟨hsound, hent⟩ := hE.fss _ _ hsp
  replace h := Pr.go_bind_some h; obtain ⟨as, f2, h1, h⟩ := h
  replace h := Pr.go_bind_some h; obtain ⟨ids, f3, h2, h⟩ := h
  obtain ⟨rfl, hn⟩ := collect_ok _ _ _ _ _ _ h2 (by simp)
  replace h := Pr.go_bind_some h; obtain ⟨rs, f4, h3, h⟩ := h
  obtain ⟨rfl, rfl⟩ := getRs_ok _ _ _ _ h3
  split at h
  case isFalse => exact (go_fail h).elim
  rename_i hlent
  unfold callPk guard at h
  simp only [Pr.go] at h
  split at h
  case isFalse => cases h
  rename_i hok
  cases hout : sp.fn ⟨renL (posIn ids) (as ++ caps), numbered 0 ((ids.map f4.reg).map (Reg.ren (posIn ids)))⟩ with
  | none => rw [hout] at h; simp at h
  | some out =>
    rw [hout] at h
    simp only [Option.bind_some] at h
    split at h
    case isFalse => exact (go_fail h).elim
    rename_i hret
    -- the package
    have hpk : ∀ j, (⟨renL (posIn ids) (as ++ caps), numbered 0 ((ids.map f4.reg).map (Reg.ren (posIn ids)))⟩ : Fr).reg j = match ids[j]? with | some k => (f4.reg k).ren (posIn ids) | none => .abs := by
      intro j
      simp only [Fr.reg]
      rw [numbered_at]
      simp only [Nat.zero_le, if_true, Nat.sub_zero, List.getD, List.map_map, List.getElem?_map]
      cases ids[j]? <;> rfl
    generalize hpkd : (⟨renL (posIn ids) (as ++ caps), numbered 0 ((ids.map f4.reg).map (Reg.ren (posIn ids)))⟩ : Fr) = pk at hpk hout hok
    have hslots : pk.slots = renL (posIn ids) (as ++ caps) := by rw [← hpkd]
    let locc : Nat → Loc := fun j => match ids[j]? with | some k => loc k | none => ⟨0, 0, 0, true, none⟩
    have hlocc : ∀ j k, ids[j]? = some k → locc j = loc k := fun j k hj => by simp only [locc, hj]
    have main : ∀ (S2 : Nat → Prop) (L : List Nat), E.gl S2 w.heap → Ctx en f4.reg loc S2 w.heap → (∀ k ∈ L, k ∉ ids) → (L = [] ∨ out.noS = true) → RelVs (view f4.reg loc (lentS S2 loc f4.reg L) w.heap) (as ++ caps) (us ++ cus) →
        fr1.slots = f4.slots ∧ Calls P f (us ++ cus).toArray w fun e w' => ∃ u, e = .returned u ∧ Sm w w' ∧ Good en f4.reg loc S2 w.heap fr1.reg w'.heap v u := by
      intro S2 L hG2 hc2 hL hf hrel
      have hkey : ∀ k j, posIn ids k = some j → pk.reg j = (f4.reg k).ren (posIn ids) ∧ locc j = loc k := fun k j hk => by
        have := posIn_some hk
        exact ⟨by rw [hpk j, this], hlocc j k this⟩
      have hSS : ∀ b, lentS S2 loc f4.reg L b → lentS S2 loc f4.reg L b ∧ w.heap[b]? = w.heap[b]? := fun b hb => ⟨hb, rfl⟩
      have hsub : ∀ b, S2 b → lentS S2 loc f4.reg L b ∧ w.heap[b]? = w.heap[b]? := fun b hb => ⟨.inl hb, rfl⟩
      have hmv : Moves (view f4.reg loc (lentS S2 loc f4.reg L) w.heap) (view pk.reg locc (lentS S2 loc f4.reg L) w.heap) (posIn ids) :=
        ⟨fun k j v hk e => ren_sl hSS (hkey k j hk) e, fun k j o v hk e => ren_pt (hkey k j hk) e, fun k j i o v hk e => ren_el hSS (hkey k j hk) e, fun k j v hk e => ren_mp (v := v) (hkey k j hk) e⟩
      have hmv2 : Moves (view f4.reg loc S2 w.heap) (view pk.reg locc (lentS S2 loc f4.reg L) w.heap) (posIn ids) :=
        ⟨fun k j v hk e => ren_sl hsub (hkey k j hk) e, fun k j o v hk e => ren_pt (hkey k j hk) e, fun k j i o v hk e => ren_el hsub (hkey k j hk) e, fun k j v hk e => ren_mp (v := v) (hkey k j hk) e⟩
      have hown : ∀ j, owns (locc j) (pk.reg j) → ∃ k, ids[j]? = some k ∧ owns (loc k) (f4.reg k) ∧ locc j = loc k := by
        intro j hj
        rw [hpk j] at hj
        cases hk : ids[j]? with
        | none => rw [hk] at hj; exact hj.elim
        | some k =>
          rw [hk] at hj
          simp only [owns_ren] at hj
          rw [hlocc j k hk] at hj
          exact ⟨k, rfl, hj, hlocc j k hk⟩
      have hcore : Core pk.reg locc (lentS S2 loc f4.reg L) w.heap := by
        refine ⟨fun j => ?_, fun a b ha hb hab => ?_, fun j hj => ?_, fun b hb => ?_⟩
        · rw [hpk j]
          cases hk : ids[j]? with
          | none => exact trivial
          | some k =>
            simp only [hlocc j k hk]
            exact RelR_ren hmv2 hsub (fun _ => rfl) (fun ha => ⟨rfl, fun hs => hs.elim id fun ⟨k', _, ho, e⟩ => absurd e.symm (aux_ne hc2.core ha ho)⟩) (hc2.core.reg k)
        · obtain ⟨k, hk, ok, lk⟩ := hown a ha
          obtain ⟨k', hk', ok', lk'⟩ := hown b hb
          rw [lk, lk'] at hab
          have := hc2.core.inj k k' ok ok' hab
          subst this
          exact nodup_get hn hk hk'
        · obtain ⟨k, hk, ok, lk⟩ := hown j hj
          rw [lk]
          rintro (hb | ⟨k', hk', ok', hb⟩)
          · exact hc2.core.nS k ok hb
          · have := hc2.core.inj k' k ok' ok hb
            subst this
            exact hL k' hk' (List.mem_of_getElem? hk)
        · rcases hb with hb | ⟨k', _, ok', rfl⟩
          · exact hc2.core.bS b hb
          · exact own_lt hc2.core ok'
      have hcall := hsound pk out hok hout (us ++ cus) w locc (lentS S2 loc f4.reg L) hcore (hE.gm _ _ _ _ hG2 hsub) (by rw [hslots]; exact RelVs_ren hmv hSS _ _ hrel)
      refine ⟨?_, ?_⟩
      · -- the slots stay
        have hsl : ∀ {fr2 : Fr}, (callOut dst ids out).go f4 = some (v, fr2) → fr2.slots = f4.slots := by
          intro fr2 hg
          unfold callOut at hg
          simp only at hg
          split at hg
          · replace hg := Pr.go_bind_some hg; obtain ⟨_, g1, k1, hg⟩ := hg
            obtain ⟨rfl, _⟩ := allAbs_ok _ _ _ _ k1
            replace hg := Pr.go_bind_some hg; obtain ⟨_, g2, k2, hg⟩ := hg
            obtain ⟨e2, _⟩ := setRs_ok _ _ _ _ k2
            replace hg := Pr.go_bind_some hg; obtain ⟨_, g3, k3, hg⟩ := hg
            obtain ⟨e3, _⟩ := setRs_ok _ _ _ _ k3
            obtain ⟨_, rfl⟩ := go_ret hg
            rw [e3, e2]
          · exact (go_fail hg).elim
        exact hsl h
      · refine Calls.mono hcall ?_
        rintro e w' ⟨u, rfl, hsm, loc', S', p1, p2, p3⟩
        exact ⟨u, rfl, hsm, (callOut_ok hc2 hn hL hf hpk hlocc p1 p2 p3 h).2⟩
    cases hr : sp.ret with
    | true =>
      rw [hr] at h1
      obtain ⟨e1, S1, g1, g2, g3⟩ := argsF_ok _ _ _ _ _ _ _ _ h1 hc ha
      have hl : ∀ b, S1 b → lentS S1 loc f4.reg [] b := fun b hb => .inl hb
      obtain ⟨k1, k2⟩ := main S1 [] (hE.gm _ _ _ _ hG g2.S) g1 (by simp) (.inl rfl) (RelVs_mono (view_leS hl) _ _ (RelVs_append _ _ _ _ g3 (RelVs_mono g2 _ _ hcap)))
      refine ⟨by rw [k1, e1], hent, Calls.mono k2 ?_⟩
      rintro e w' ⟨u, rfl, hsm, hg⟩
      exact ⟨u, rfl, hsm, Good.from g2 hg⟩
    | false =>
      rw [hr] at h1 hlent hret
      simp only [Bool.false_or] at hlent hret
      have hS : ∀ b, S b → lentS S loc fr.reg (lentIds sp.md args) b := fun b hb => .inl hb
      obtain ⟨rfl, g1⟩ := argsL_ok hS _ _ _ _ _ _ _ h1 hc.core (fun k hk ho => .inr ⟨k, hk, ho, rfl⟩) ha
      obtain ⟨k1, k2⟩ := main S (lentIds sp.md args) hG hc (fun k hk hm => by
        rw [List.all_eq_true] at hlent
        have := hlent k hk
        rw [mem_iff.2 hm] at this
        cases this) (.inr hret) (RelVs_append _ _ _ _ g1 (RelVs_mono (view_leS hS) _ _ hcap))
      exact ⟨k1, hent, k2⟩

/-! ### equality -/
theorem eqp_nil {P : Program} {t e : TypeId} {w : World} (hu : P.underlying t = some (.pointer e)) : (Op.equal t (.pointer none) (.pointer none)).run P w = .ok true w := by
  have : ∀ d, (Op.equalIn (d + 1) t (.pointer none) (.pointer none)).run P w = .ok true w := fun d => by simp [Op.equalIn, run_underlying hu]
  exact this (Op.maxDepth - 1)
theorem eqp_some {P : Program} {t e : TypeId} {a : Addr} {w : World} (hu : P.underlying t = some (.pointer e)) : (Op.equal t (.pointer (some a)) (.pointer none)).run P w = .ok false w := by
  have : ∀ d, (Op.equalIn (d + 1) t (.pointer (some a)) (.pointer none)).run P w = .ok false w := fun d => by simp [Op.equalIn, run_underlying hu]
  exact this (Op.maxDepth - 1)
theorem eqp_same {P : Program} {t e : TypeId} {a : Addr} {i : TypeInfo} {w : World} (hu : P.underlying t = some (.pointer e)) (hi : P.info? e = some i) (hz : i.size ≠ 0) : (Op.equal t (.pointer (some a)) (.pointer (some a))).run P w = .ok true w := by
  have : ∀ d, (Op.equalIn (d + 1) t (.pointer (some a)) (.pointer (some a))).run P w = .ok true w := fun d => by simp [Op.equalIn, run_underlying hu, sizeOf, typeInfo, hi, hz, sameAddr]
  exact this (Op.maxDepth - 1)

theorem eqs_nil {P : Program} {t e : TypeId} {a : Option Addr} {n c : Nat} {w : World} (hu : P.underlying t = some (.slice e)) : (Op.equal t (.slice a n c) (.slice none 0 0)).run P w = .ok a.isNone w := by
  have : ∀ d, (Op.equalIn (d + 1) t (.slice a n c) (.slice none 0 0)).run P w = .ok a.isNone w := fun d => by cases a <;> simp [Op.equalIn, run_underlying hu]
  exact this (Op.maxDepth - 1)

theorem boolOp_ok {P : Program} {V : Vw} {op : BinOp} {t : TypeId} {b : Bool} {ux uy : Value} {v : FV} {fr fr1 : Fr} {w : World} (h : (boolOp op b).go fr = some (v, fr1)) (he : (Op.equal t ux uy).run P w = .ok b w)
    (hp : (∃ a, ux = .pointer a) := by exact ⟨_, rfl⟩) : fr1 = fr ∧ Yields P (binOp op t ux uy) w V v := by
  obtain ⟨a, rfl⟩ := hp
  cases op
  case eql =>
    obtain ⟨rfl, rfl⟩ := go_ret h
    exact ⟨rfl, .bool b, by simp [binOp, he], rfl⟩
  case neq =>
    obtain ⟨rfl, rfl⟩ := go_ret h
    exact ⟨rfl, .bool (!b), by simp [binOp, he], rfl⟩
  all_goals exact (go_fail h).elim

theorem nilI_ok {P : Program} {E : Env} (hE : EnvOk P E) {loc S} {op : BinOp} {xt : TypeId} {xo yo : Operand} {x v : FV} {ux : Value} {fr fr1 : Fr} {w : World} (hy : isNilI yo = true) (h : (nilIV E op xt x).go fr = some (v, fr1))
    (hx : RelV (view fr.reg loc S w.heap) x ux) :
    fr1 = fr ∧ ∃ u, (do eqGuard op xt xo yo ux .nilIface; binOp op xt ux .nilIface : Sem Value).run P w = .ok u w ∧ RelV (view fr.reg loc S w.heap) v u := by
  unfold nilIV at h
  cases x
  case nili =>
    replace h := go_popt h; obtain ⟨ti, ht, h⟩ := h
    replace h := go_guard h; obtain ⟨hi, h⟩ := h
    obtain ⟨ms, hu⟩ := (hE.tts _ _ ht).ifcs hi
    cases hx
    obtain ⟨c, rfl⟩ : ∃ c, yo = .const c := by
      cases yo with
      | const c => exact ⟨c, rfl⟩
      | _ => simp [isNilI] at hy
    have hg : (eqGuard op xt xo (.const c) .nilIface .nilIface).run P w = .ok () w := by
      unfold eqGuard
      cases op <;> simp
    have he : (Op.equal xt .nilIface .nilIface).run P w = .ok true w := by
      show (Op.equalIn (9999 + 1) xt .nilIface .nilIface).run P w = _
      unfold Op.equalIn
      simp [run_underlying hu, Result.andThen]
    unfold boolOp at h
    cases op <;> first | exact (go_fail h).elim | skip
    · obtain ⟨rfl, rfl⟩ := go_ret h
      exact ⟨rfl, .bool true, by simp [hg, binOp, he, Result.andThen], rfl⟩
    · obtain ⟨rfl, rfl⟩ := go_ret h
      exact ⟨rfl, .bool false, by simp [hg, binOp, he, Result.andThen], rfl⟩
  all_goals exact (go_fail h).elim

theorem bin_ok {P : Program} {E : Env} (hE : EnvOk P E) {en : Ent} {loc S} {op : BinOp} {xt : TypeId} {xo yo : Operand} {x y v : FV} {ux uy : Value} {fr fr1 : Fr} {w : World} (h : (binV E op xt x y).go fr = some (v, fr1))
    (hc : Ctx en fr.reg loc S w.heap) (hx : RelV (view fr.reg loc S w.heap) x ux) (hy : RelV (view fr.reg loc S w.heap) y uy) :
    fr1.slots = fr.slots ∧ ∃ u, (do eqGuard op xt xo yo ux uy; binOp op xt ux uy : Sem Value).run P w = .ok u w ∧ Good en fr.reg loc S w.heap fr1.reg w.heap v u := by
  have eqg : ∀ {a b : Value}, (∀ c, a ≠ .agg c) → a ≠ .nilIface → (eqGuard op xt xo yo a b).run P w = .ok () w := by
    intro a b h1 h2
    unfold eqGuard
    cases op <;> simp <;> (cases a <;> first | (exact absurd rfl (h1 _)) | (exact absurd rfl h2) | simp)
  have fin : ∀ {fr1 : Fr} {a b : Value}, (∀ c, a ≠ .agg c) → a ≠ .nilIface → (fr1 = fr ∧ Yields P (binOp op xt a b) w (view fr.reg loc S w.heap) v) →
      fr1.slots = fr.slots ∧ ∃ u, (do eqGuard op xt xo yo a b; binOp op xt a b : Sem Value).run P w = .ok u w ∧ Good en fr.reg loc S w.heap fr1.reg w.heap v u := by
    rintro fr1 a b h1 h2 ⟨rfl, u, hu, hr⟩
    exact ⟨rfl, u, by simp [eqg h1 h2, hu], good_same hc hr⟩
  unfold binV at h
  split at h
  · rename_i k a k' b
    cases hx; cases hy
    split at h
    · exact fin (by simp) (by simp) (shOp_ok h (.inl rfl))
    · exact fin (by simp) (by simp) (shOp_ok h (.inr rfl))
    · rename_i h1 h2
      split at h
      · rename_i hk; subst hk
        exact fin (by simp) (by simp) (intOp_ok h (fun e => h1 e) (fun e => h2 e))
      · exact (go_fail h).elim
  · cases hx; cases hy
    exact fin (by simp) (by simp) (strOp_ok h)
  · replace h := go_popt h; obtain ⟨ti, ht, h⟩ := h
    replace h := go_popt h; obtain ⟨e, he, h⟩ := h
    obtain ⟨hu, i, hi, hsz⟩ := (hE.tts _ _ ht).ptr e he
    cases hx; cases hy
    exact fin (by simp) (by simp) (boolOp_ok h (eqp_nil hu))
  · rename_i k o
    replace h := go_popt h; obtain ⟨ti, ht, h⟩ := h
    replace h := go_popt h; obtain ⟨e, he, h⟩ := h
    obtain ⟨hu, i, hi, hsz⟩ := (hE.tts _ _ ht).ptr e he
    cases hy
    have hx' : ptRel fr.reg loc k o ux := hx
    cases hk : fr.reg k
    case box cs =>
      simp only [ptRel, hk] at hx'; subst hx'
      simp only [Pr.go, hk] at h
      exact fin (by simp) (by simp) (boolOp_ok h (eqp_some hu))
    all_goals simp [Pr.go, hk] at h
  · rename_i k o k' o'
    replace h := go_popt h; obtain ⟨ti, ht, h⟩ := h
    replace h := go_popt h; obtain ⟨e, he, h⟩ := h
    obtain ⟨hu, i, hi, hsz⟩ := (hE.tts _ _ ht).ptr e he
    have hx' : ptRel fr.reg loc k o ux := hx
    have hy' : ptRel fr.reg loc k' o' uy := hy
    cases hk : fr.reg k
    case box cs =>
      simp only [Pr.go, hk] at h
      split at h
      · rename_i hkk
        obtain ⟨rfl, rfl⟩ := hkk
        simp only [ptRel, hk] at hx' hy'
        subst hx'; subst hy'
        exact fin (by simp) (by simp) (boolOp_ok h (eqp_same hu hi hsz))
      · exact (go_fail h).elim
    all_goals simp [Pr.go, hk] at h
  · replace h := go_popt h; obtain ⟨ti, ht, h⟩ := h
    replace h := go_popt h; obtain ⟨tc, htc, h⟩ := h
    split at h
    case isFalse => exact (go_fail h).elim
    rename_i hcond
    simp only [Bool.and_eq_true] at hcond
    obtain ⟨heq, hfl⟩ := hcond
    replace h := Pr.go_bind_some h; obtain ⟨a, f2, h1, h⟩ := h
    obtain ⟨e1, S1, g1, g2, g3⟩ := closeD_ok h1 hc hx
    replace h := Pr.go_bind_some h; obtain ⟨b, f3, h2, h⟩ := h
    obtain ⟨e2, S2, k1, k2, k3⟩ := closeD_ok h2 g1 (RelV_mono g2 _ _ hy)
    obtain ⟨hok, hgd⟩ := (hE.tts _ _ ht).eqs tc htc heq
    have hrun := eq_run (P := P) 50 xt tc Op.maxDepth a b ux uy w hok (by decide) g3 k3
    have hg : ∀ o : BinOp, (eqGuard o xt xo yo ux uy).run P w = .ok () w := by
      intro o
      unfold eqGuard
      have hni : ux ≠ .nilIface := by
        intro e; subst e
        cases tc <;> first | (simp [Tc.flat] at hfl; done) | (obtain ⟨_, e, _⟩ := g3; cases e) | exact g3.elim | (simp [RelVal, RelD] at g3)
      cases o <;> first | rfl | skip
      all_goals (cases ux <;> first | (exact absurd rfl hni) | rfl | skip)
      all_goals (cases uy <;> first | rfl | skip)
      all_goals simp [hgd]
    have hb : ∀ o, o = BinOp.eql ∨ o = BinOp.neq → (∀ k n, ux ≠ .int k n) ∨ True := fun _ _ => .inr trivial
    cases op <;> first | exact (go_fail h).elim | skip
    · obtain ⟨rfl, rfl⟩ := go_ret h
      refine ⟨by rw [e2, e1], .bool (tc.beq a b), ?_, loc, S2, k1, Vw.le_trans g2 k2, rfl⟩
      have hbo : (binOp .eql xt ux uy).run P w = .ok (.bool (tc.beq a b)) w := by
        have : (Op.equal xt ux uy).run P w = .ok (tc.beq a b) w := hrun
        cases tc with
        | int k => cases g3; cases k3; simp [binOp, Op.intCmp]; rfl
        | str => cases g3; cases k3; simp [binOp, Op.stringOp, str_toList]; rfl
        | bool => cases g3; cases k3; simp [binOp, this]
        | st t => obtain ⟨_, rfl, _⟩ := g3; obtain ⟨_, rfl, _⟩ := k3; simp [binOp, this]
        | slice t => simp [Tc.flat] at hfl
        | pair a b => exact g3.elim
      simp [hg, hbo]
    · obtain ⟨rfl, rfl⟩ := go_ret h
      refine ⟨by rw [e2, e1], .bool (!tc.beq a b), ?_, loc, S2, k1, Vw.le_trans g2 k2, rfl⟩
      have hbo : (binOp .neq xt ux uy).run P w = .ok (.bool (!tc.beq a b)) w := by
        have : (Op.equal xt ux uy).run P w = .ok (tc.beq a b) w := hrun
        cases tc with
        | int k => cases g3; cases k3; simp [binOp, Op.intCmp]; rfl
        | str => cases g3; cases k3; simp [binOp, Op.stringOp, str_toList]; rfl
        | bool => cases g3; cases k3; simp [binOp, this]
        | st t => obtain ⟨_, rfl, _⟩ := g3; obtain ⟨_, rfl, _⟩ := k3; simp [binOp, this]
        | slice t => simp [Tc.flat] at hfl
        | pair a b => exact g3.elim
      simp [hg, hbo]

theorem nilCmp_ok {P : Program} {E : Env} (hE : EnvOk P E) {loc S} {op : BinOp} {xt : TypeId} {x v : FV} {ux : Value} {fr fr1 : Fr} {w : World} (h : (nilCmpV E op xt x).go fr = some (v, fr1)) (hc : Core fr.reg loc S w.heap)
    (hx : RelV (view fr.reg loc S w.heap) x ux) : fr1 = fr ∧ Yields P (binOp op xt ux (.slice none 0 0)) w (view fr.reg loc S w.heap) v := by
  unfold nilCmpV at h
  replace h := go_popt h; obtain ⟨ti, ht, h⟩ := h
  replace h := go_popt h; obtain ⟨e, he, h⟩ := h
  obtain ⟨d, hd, _, h2, _⟩ := (hE.tts _ _ ht).und
  have := h2 e he
  subst this
  have hub : ∀ (a : Option Addr) (n c : Nat), (ubV op).go fr = some (v, fr1) → fr1 = fr ∧ Yields P (binOp op xt (.slice a n c) (.slice none 0 0)) w (view fr.reg loc S w.heap) v := by
    intro a n c h
    cases op
    case eql =>
      obtain ⟨rfl, rfl⟩ := go_ret h
      exact ⟨rfl, .bool a.isNone, by simp [binOp, eqs_nil hd], _, rfl⟩
    case neq =>
      obtain ⟨rfl, rfl⟩ := go_ret h
      exact ⟨rfl, .bool (!a.isNone), by simp [binOp, eqs_nil hd], _, rfl⟩
    all_goals exact (go_fail h).elim
  have hno : ∀ (a : Addr) (n c : Nat), (boolOp op false).go fr = some (v, fr1) → fr1 = fr ∧ Yields P (binOp op xt (.slice (some a) n c) (.slice none 0 0)) w (view fr.reg loc S w.heap) v := by
    intro a n c h
    cases op
    case eql =>
      obtain ⟨rfl, rfl⟩ := go_ret h
      exact ⟨rfl, .bool false, by simp [binOp, eqs_nil hd], rfl⟩
    case neq =>
      obtain ⟨rfl, rfl⟩ := go_ret h
      exact ⟨rfl, .bool true, by simp [binOp, eqs_nil hd], rfl⟩
    all_goals exact (go_fail h).elim
  have hdat : ∀ (t' : Tc) (xs : List t'.den), (Pr.ite xs.isEmpty (ubV op) (boolOp op false)).go fr = some (v, fr1) → RelD S w.heap (.slice t') xs [ux] → fr1 = fr ∧ Yields P (binOp op xt ux (.slice none 0 0)) w (view fr.reg loc S w.heap) v := by
    rintro t' xs h ⟨a, cap, e1, _, e3⟩
    simp at e1; subst e1
    simp only [Pr.go] at h
    cases xs with
    | nil => exact hub _ _ _ (by simpa using h)
    | cons x0 xs =>
      obtain ⟨ad, rfl, _⟩ := e3 0 x0 rfl
      exact hno _ _ _ (by simpa using h)
  cases x
  case dat t' xs =>
    cases t'
    case slice t' => exact hdat t' xs h hx
    all_goals exact (go_fail h).elim
  case nil0 =>
    obtain ⟨a0, rfl⟩ := hx
    exact hub _ _ _ h
  case slc k =>
    have hx' : slRel fr.reg loc S w.heap k ux := hx
    cases hk : fr.reg k
    case arr t' xs =>
      simp only [Pr.go, hk] at h
      simp only [slRel, hk] at hx'; subst hx'
      have hreg := hc.reg k
      rw [hk] at hreg
      cases xs with
      | nil =>
        unfold hdl
        split
        · exact hub _ _ _ (by simpa using h)
        · exact hub _ _ _ (by simpa using h)
      | cons x0 xs =>
        rcases hreg with ⟨_, hn⟩ | ⟨hn, _⟩
        · cases hn
        · unfold hdl
          rw [hn]
          exact hno _ _ _ (by simpa using h)
    case frz t' xs =>
      simp only [Pr.go, hk] at h
      simp only [slRel, hk] at hx'
      exact hdat t' xs (by simpa [Pr.go] using h) hx'
    all_goals simp [Pr.go, hk] at h
  all_goals exact (go_fail h).elim

end Go.Ev

set_option linter.unusedSimpArgs false
set_option linter.unusedVariables false
namespace Go.Ev
open Go

theorem val_run {P : Program} {s : Sem Value} {w w1 : World} {u : Value} (h : s.run P w = .ok u w1) : ((do pure (Next.value (← s))) : Sem Next).run P w = .ok (.value u) w1 := by simp [h]

theorem yields_ok {P : Program} {en : Ent} {fr fr1 : Fr} {loc S} {s : Sem Value} {w : World} {v : FV} (hc : Ctx en fr.reg loc S w.heap) (h : fr1 = fr ∧ Yields P s w (view fr.reg loc S w.heap) v) :
    fr1.slots = fr.slots ∧ OpOK P en fr.reg loc S w (((do pure (Next.value (← s))) : Sem Next).run P w) fr1.reg v := by
  obtain ⟨rfl, u, hu, hr⟩ := h
  exact ⟨rfl, .inl ⟨u, w, val_run hu, ⟨rfl, rfl⟩, good_same hc hr⟩⟩

theorem hint_ok {E : Env} {C : Cfg} {dst : Option Tmp} {t : TypeId} {v v' : FV} {fr fr1 : Fr} {u : Value} {en : Ent} {rg loc S} {h h' : Array Obj}
    (hg : (hintV E C dst t v).go fr = some (v', fr1)) (G : Good en rg loc S h fr.reg h' v u) : fr1.slots = fr.slots ∧ Good en rg loc S h fr1.reg h' v' u := by
  unfold hintV at hg
  cases hh : hinted C dst with
  | false =>
    rw [hh] at hg
    obtain ⟨rfl, rfl⟩ := go_ret hg
    exact ⟨rfl, G⟩
  | true =>
    rw [hh] at hg
    simp only [cond_true] at hg
    obtain ⟨ti, _, hg⟩ := go_popt hg
    obtain ⟨tc, _, hg⟩ := go_popt hg
    obtain ⟨x, f2, h1, hg⟩ := Pr.go_bind_some hg
    obtain ⟨rfl, rfl⟩ := go_ret hg
    obtain ⟨loc1, S1, a, b, c⟩ := G
    obtain ⟨g1, S2, g2, g3, g4⟩ := closeD_ok h1 a c
    exact ⟨g1, loc1, S2, g2, Vw.le_trans b g3, g4⟩

theorem zeroOp_eval {a : Act} {x : Operand} (h : zeroOp x = true) : ∃ k, a.eval x = .int k 0 := by
  unfold zeroOp at h
  split at h
  · rename_i k n
    have : n = 0 := by simpa using h
    subst this
    exact ⟨k, rfl⟩
  · cases h

theorem call_run {P : Program} {f : FuncId} {us cus : List Value} {w : World} (hent : Enters P f) :
    (do let d ← Deferred.ofValue (.func (.func f) #[] cus.toArray) us.toArray; invoke d.target d.args : Sem Next).run P w = .ok (.enter f (us ++ cus).toArray) w := by
  simp [Deferred.ofValue, invoke, hent _ w]

set_option maxHeartbeats 1000000 in
theorem op_ok {P : Program} {E : Env} (hE : EnvOk P E) {C : Cfg} {en : Ent} {loc S} {o : Oper} {a : Act} {v : FV} {fr fr1 : Fr} {w : World} (hG : E.gl S w.heap) (h : (opP E C o).go fr = some (v, fr1))
    (hc : Ctx en fr.reg loc S w.heap) (hs : RelVs (view fr.reg loc S w.heap) fr.slots a.tmps.toList) :
    fr1.slots = fr.slots ∧ OpOK P en fr.reg loc S w ((execOp a.eval o).run P w) fr1.reg v := by
  obtain ⟨dst, op, type, pos, after, gd⟩ := o
  have opr : ∀ {x : Operand} {v : FV} {fr1 : Fr}, (opnd x).go fr = some (v, fr1) → fr1 = fr ∧ RelV (view fr.reg loc S w.heap) v (a.eval x) := fun h => opnd_ok h hs
  cases op
  case move x =>
    obtain ⟨rfl, hr⟩ := opr h
    exact ⟨rfl, .inl ⟨_, w, rfl, ⟨rfl, rfl⟩, good_same hc hr⟩⟩
  case assign x =>
    obtain ⟨rfl, hr⟩ := opr h
    exact ⟨rfl, .inl ⟨_, w, rfl, ⟨rfl, rfl⟩, good_same hc hr⟩⟩
  case pick c x y =>
    simp only [opP] at h
    replace h := Pr.go_bind_some h; obtain ⟨vc, f1, h1, h⟩ := h
    obtain ⟨rfl, r1⟩ := opr h1
    replace h := Pr.go_bind_some h; obtain ⟨q, f2, h2, h⟩ := h
    unfold asB at h2
    split at h2
    · rename_i b
      obtain ⟨rfl, rfl⟩ := go_ret h2
      have hcv : a.eval c = .bool b := by
        have : [a.eval c] = [Value.bool b] := r1
        simpa using this
      simp only [Pr.go] at h
      cases b
      · obtain ⟨rfl, hr⟩ := opr (by simpa using h)
        exact ⟨rfl, .inl ⟨_, w, by simp [execOp, hcv, asBool], ⟨rfl, rfl⟩, good_same hc hr⟩⟩
      · obtain ⟨rfl, hr⟩ := opr (by simpa using h)
        exact ⟨rfl, .inl ⟨_, w, by simp [execOp, hcv, asBool], ⟨rfl, rfl⟩, good_same hc hr⟩⟩
    · exact (go_fail h2).elim
  case alloc e =>
    simp only [opP] at h
    replace h := go_popt h; obtain ⟨ti, ht, h⟩ := h
    obtain ⟨i, hi, _, _, z, hz, hzr, _, _⟩ := (hE.tts _ _ ht).info
    have hone : ∀ u ∈ z.cells.toList, u.oneCell' = true := by
      have : ∀ (l : List FV) (us : List Value), fvzs l = some us → ∀ u ∈ us, u.oneCell' = true := by
        intro l
        induction l with
        | nil => intro us h; simp [fvzs] at h; subst h; simp
        | cons v l ih =>
          intro us h
          simp only [fvzs, Option.bind_eq_some_iff] at h
          obtain ⟨u0, h1, us', h2, h3⟩ := h
          simp at h3; subst h3
          intro u hu
          rcases List.mem_cons.1 hu with rfl | hu
          · unfold fvz at h1; split at h1 <;> simp at h1 <;> subst h1 <;> rfl
          · exact ih us' h2 u hu
      exact this _ _ hzr
    replace h := Pr.go_bind_some h; obtain ⟨cs, f1, ho, h⟩ := h
    obtain ⟨q0, loc1, q1, q2, q3⟩ := ownL_ok _ _ _ _ _ _ loc S ho hc (fvzs_rel _ hzr)
    obtain ⟨g1, g2⟩ := box_new h q1 (e := e) q3 hone
    exact ⟨g1.trans q0, .inl ⟨_, _, val_run (alloc_run hi hz w), ⟨rfl, rfl⟩, Good.from q2 g2⟩⟩
  case box e x =>
    simp only [opP] at h
    replace h := go_popt h; obtain ⟨ti, ht, h⟩ := h
    replace h := Pr.go_bind_some h; obtain ⟨vx, f1, h1, h⟩ := h
    obtain ⟨rfl, r1⟩ := opr h1
    replace h := Pr.go_bind_some h; obtain ⟨q, f2, h2, h⟩ := h
    obtain ⟨rfl, hst⟩ := chk_go h2
    split at h
    · obtain ⟨s1, s2⟩ := split_rel r1 hst
      replace h := Pr.go_bind_some h; obtain ⟨cs, f1, ho, h⟩ := h
      obtain ⟨q0, loc1, q1, q2, q3⟩ := ownL_ok _ _ _ _ _ _ loc S ho hc s1
      obtain ⟨g1, g2⟩ := box_new h q1 (e := e) q3 s2
      exact ⟨g1.trans q0, .inl ⟨_, _, val_run (box_run w), ⟨rfl, rfl⟩, by simpa using Good.from q2 g2⟩⟩
    · exact (go_fail h).elim
  case build t ps =>
    simp only [opP] at h
    replace h := go_popt h; obtain ⟨ti, ht, h⟩ := h
    split at h
    · rename_i hcond
      simp only [Bool.and_eq_true, Bool.not_eq_true'] at hcond
      replace h := Pr.go_bind_some h; obtain ⟨l, f1, h1, h⟩ := h
      replace h := Pr.go_bind_some h; obtain ⟨l', f2, ho, h⟩ := h
      have hne : ti.flds ≠ [] := by
        intro e; rw [e] at hcond; simp at hcond
      obtain ⟨rfl, u, q1, vs, rfl, q2, q3⟩ := build_ok (P := P) hE ht hcond.1 hne h1 hs
      obtain ⟨q0, loc1, k1, k2, k3⟩ := ownL_ok _ _ _ _ _ _ loc S ho hc q2
      obtain ⟨q9, g⟩ := hint_ok h ⟨loc1, S, k1, k2, vs, rfl, k3, q3⟩
      exact ⟨q9.trans q0, .inl ⟨_, w, val_run q1, ⟨rfl, rfl⟩, g⟩⟩
    · exact (go_fail h).elim
  case buildSlice t n ps =>
    simp only [opP] at h
    replace h := go_popt h; obtain ⟨q, hq, h⟩ := h
    split at h
    · rename_i hn
      obtain ⟨g1, u, w1, g2, gsm, g3⟩ := buildSlice_ok hE hq hn h hc hs
      exact ⟨g1, .inl ⟨u, w1, val_run g2, gsm, g3⟩⟩
    · exact (go_fail h).elim
  case load t x =>
    simp only [opP] at h
    replace h := Pr.go_bind_some h; obtain ⟨vx, f1, h1, h⟩ := h
    obtain ⟨rfl, r1⟩ := opr h1
    replace h := Pr.go_bind_some h; obtain ⟨u0, f2, h2, h⟩ := h
    obtain ⟨rfl, uu, hu, hr⟩ := load_ok hE h2 hc.core r1
    obtain ⟨q0, g⟩ := hint_ok h (good_same hc hr)
    exact ⟨q0, .inl ⟨uu, w, val_run hu, ⟨rfl, rfl⟩, g⟩⟩
  case store t x y =>
    simp only [opP] at h
    replace h := Pr.go_bind_some h; obtain ⟨vx, f1, h1, h⟩ := h
    obtain ⟨rfl, r1⟩ := opr h1
    replace h := Pr.go_bind_some h; obtain ⟨vy, f2, h2, h⟩ := h
    obtain ⟨rfl, r2⟩ := opr h2
    replace h := Pr.go_bind_some h; obtain ⟨q, f3, h3, h⟩ := h
    obtain ⟨rfl, rfl⟩ := go_ret h
    obtain ⟨g1, w1, g2, gsm, loc1, S1, g3, g4⟩ := store_ok hE h3 hc r1 r2
    exact ⟨g1, .inr (.inl ⟨w1, by simp [execOp, g2], gsm, loc1, S1, g3, g4, rfl⟩)⟩
  case nilCheck x =>
    simp only [opP] at h
    replace h := Pr.go_bind_some h; obtain ⟨vx, f1, h1, h⟩ := h
    obtain ⟨rfl, r1⟩ := opr h1
    cases vx
    case ptr k off =>
      have r1' : ptRel f1.reg loc k off (a.eval x) := r1
      simp only [Pr.go] at h
      cases hk : f1.reg k <;> rw [hk] at h <;> first | exact (go_fail h).elim | skip
      obtain ⟨rfl, rfl⟩ := go_ret h
      simp only [ptRel, hk] at r1'
      exact ⟨rfl, .inl ⟨a.eval x, w, by simp only [execOp, r1', Sem.run_pure], ⟨rfl, rfl⟩, good_same hc r1⟩⟩
    case fp t y =>
      obtain ⟨rfl, rfl⟩ := go_ret h
      have r1' := r1
      obtain ⟨ad, cs, e, _⟩ := r1'
      exact ⟨rfl, .inl ⟨a.eval x, w, by simp only [execOp, e, Sem.run_pure], ⟨rfl, rfl⟩, good_same hc r1⟩⟩
    case clos f l =>
      obtain ⟨rfl, rfl⟩ := go_ret h
      have r1' := r1
      obtain ⟨vs, e, _⟩ := r1'
      exact ⟨rfl, .inl ⟨a.eval x, w, by simp only [execOp, e, Sem.run_pure], ⟨rfl, rfl⟩, good_same hc r1⟩⟩
    case ep k i off =>
      by_cases hmk : off = sufMark
      · simp only [hmk, if_true] at h; exact (go_fail h).elim
      simp only [hmk, if_false] at h
      have r1' : elRel f1.reg loc S w.heap k i off (a.eval x) := r1
      simp only [Pr.go] at h
      cases hk : f1.reg k
      case arr t' xs =>
        rw [hk] at h
        replace h := go_guard h; obtain ⟨hi, h⟩ := h
        obtain ⟨rfl, rfl⟩ := go_ret h
        simp at hi
        have hreg := hc.core.reg k
        rw [hk] at hreg
        rcases hreg with ⟨_, hx⟩ | ⟨hnil, _⟩
        · subst hx; simp at hi
        simp only [elRel, hk] at r1'
        have e := (ElOK_pt hmk).1 (r1'.2 hnil)
        exact ⟨rfl, .inl ⟨a.eval x, w, by simp only [execOp, e, Sem.run_pure], ⟨rfl, rfl⟩, good_same hc r1⟩⟩
      all_goals (rw [hk] at h; exact (go_fail h).elim)
    all_goals exact (go_fail h).elim
  case makeMap t r =>
    cases r
    case some => exact (go_fail h).elim
    simp only [opP] at h
    obtain ⟨g1, u, w1, g2, gsm, g3⟩ := makeMap_ok (P := P) h hc
    exact ⟨g1, .inl ⟨u, w1, val_run g2, gsm, g3⟩⟩
  case lookup t x i ok =>
    simp only [opP] at h
    replace h := Pr.go_bind_some h; obtain ⟨vx, f1, h1, h⟩ := h
    obtain ⟨rfl, r1⟩ := opr h1
    replace h := Pr.go_bind_some h; obtain ⟨vi, f2, h2, h⟩ := h
    obtain ⟨rfl, r2⟩ := opr h2
    obtain ⟨g1, u, g2, g3⟩ := lookup_ok hE h hc r1 r2
    exact ⟨g1, .inl ⟨u, w, val_run g2, ⟨rfl, rfl⟩, g3⟩⟩
  case range t x =>
    simp only [opP] at h
    replace h := Pr.go_bind_some h; obtain ⟨vx, f1, h1, h⟩ := h
    obtain ⟨rfl, r1⟩ := opr h1
    obtain ⟨g1, u, w1, g2, gsm, g3⟩ := range_ok hE h hc r1
    exact ⟨g1, .inl ⟨u, w1, val_run g2, gsm, g3⟩⟩
  case next it isS =>
    simp only [opP] at h
    replace h := Pr.go_bind_some h; obtain ⟨vx, f1, h1, h⟩ := h
    obtain ⟨rfl, r1⟩ := opr h1
    obtain ⟨g1, u, w1, g2, gsm, g3⟩ := next_ok (P := P) (ty := type) h hc r1
    exact ⟨g1, .inl ⟨u, w1, val_run g2, gsm, g3⟩⟩
  case entry it =>
    simp only [opP] at h
    replace h := Pr.go_bind_some h; obtain ⟨vx, f1, h1, h⟩ := h
    obtain ⟨rfl, r1⟩ := opr h1
    obtain ⟨g1, u, g2, g3⟩ := entry_ok (P := P) h hc r1
    exact ⟨g1, .inl ⟨u, w, val_run g2, ⟨rfl, rfl⟩, g3⟩⟩
  case mapUpdate t m k x =>
    simp only [opP] at h
    replace h := Pr.go_bind_some h; obtain ⟨vm, f1, h1, h⟩ := h
    obtain ⟨rfl, r1⟩ := opr h1
    replace h := Pr.go_bind_some h; obtain ⟨vk, f2, h2, h⟩ := h
    obtain ⟨rfl, r2⟩ := opr h2
    replace h := Pr.go_bind_some h; obtain ⟨vx, f3, h3, h⟩ := h
    obtain ⟨rfl, r3⟩ := opr h3
    obtain ⟨rfl, g1, w1, g2, gsm, loc1, S1, g3, g4⟩ := mapUpdate_ok hE h hc r1 r2 r3
    exact ⟨g1, .inr (.inl ⟨w1, by simp [execOp, g2], gsm, loc1, S1, g3, g4, rfl⟩)⟩
  case insert t m k x =>
    simp only [opP] at h
    replace h := Pr.go_bind_some h; obtain ⟨vm, f1, h1, h⟩ := h
    obtain ⟨rfl, r1⟩ := opr h1
    replace h := Pr.go_bind_some h; obtain ⟨vk, f2, h2, h⟩ := h
    obtain ⟨rfl, r2⟩ := opr h2
    replace h := Pr.go_bind_some h; obtain ⟨vx, f3, h3, h⟩ := h
    obtain ⟨rfl, r3⟩ := opr h3
    obtain ⟨rfl, g1, w1, g2, gsm, loc1, S1, g3, g4⟩ := mapUpdate_ok hE h hc r1 r2 r3
    exact ⟨g1, .inr (.inl ⟨w1, by simp [execOp, g2], gsm, loc1, S1, g3, g4, rfl⟩)⟩
  case makeSlice t n c =>
    simp only [opP] at h
    replace h := Pr.go_bind_some h; obtain ⟨vx, f1, h1, h⟩ := h
    obtain ⟨rfl, r1⟩ := opr h1
    replace h := Pr.go_bind_some h; obtain ⟨vy, f2, h2, h⟩ := h
    obtain ⟨rfl, r2⟩ := opr h2
    obtain ⟨g1, u, w1, g2, gsm, g3⟩ := makeV_ok hE h hc r1 r2
    exact ⟨g1, .inl ⟨u, w1, val_run g2, gsm, g3⟩⟩
  case binOp op xt x y yt =>
    simp only [opP] at h
    split at h
    · rename_i hnil
      replace h := Pr.go_bind_some h; obtain ⟨vx, f1, h1, h⟩ := h
      obtain ⟨rfl, r1⟩ := opr h1
      have hy : a.eval y = .slice none 0 0 := by
        unfold isNilS at hnil
        split at hnil
        · rfl
        · cases hnil
      obtain ⟨rfl, u, q1, q2⟩ := nilCmp_ok (P := P) hE h hc.core r1
      refine ⟨rfl, .inl ⟨u, w, ?_, ⟨rfl, rfl⟩, good_same hc q2⟩⟩
      refine val_run (P := P) (w1 := w) (s := do eqGuard op xt x y (a.eval x) (a.eval y); binOp op xt (a.eval x) (a.eval y)) ?_
      rw [hy]
      have hg : (eqGuard op xt x y (a.eval x) (.slice none 0 0)).run P w = .ok () w := by
        unfold eqGuard
        cases op <;> simp <;> (cases a.eval x <;> simp)
      simp [hg, q1]
    split at h
    · rename_i hnil
      replace h := Pr.go_bind_some h; obtain ⟨vx, f1, h1, h⟩ := h
      obtain ⟨rfl, r1⟩ := opr h1
      have hy : a.eval y = .nilIface := by
        unfold isNilI at hnil
        split at hnil
        · rfl
        · cases hnil
      obtain ⟨rfl, u, q1, q2⟩ := nilI_ok (P := P) (xo := x) hE hnil h r1
      refine ⟨rfl, .inl ⟨u, w, ?_, ⟨rfl, rfl⟩, good_same hc q2⟩⟩
      refine val_run (P := P) (w1 := w) (s := do eqGuard op xt x y (a.eval x) (a.eval y); binOp op xt (a.eval x) (a.eval y)) ?_
      rw [hy]; exact q1
    replace h := Pr.go_bind_some h; obtain ⟨vx, f1, h1, h⟩ := h
    obtain ⟨rfl, r1⟩ := opr h1
    replace h := Pr.go_bind_some h; obtain ⟨vy, f2, h2, h⟩ := h
    obtain ⟨rfl, r2⟩ := opr h2
    obtain ⟨g1, u, g2, g3⟩ := bin_ok (P := P) (xo := x) (yo := y) hE h hc r1 r2
    exact ⟨g1, .inl ⟨u, w, val_run g2, ⟨rfl, rfl⟩, g3⟩⟩
  case unOp op xt x =>
    simp only [opP] at h
    replace h := Pr.go_bind_some h; obtain ⟨vx, f1, h1, h⟩ := h
    obtain ⟨rfl, r1⟩ := opr h1
    exact yields_ok hc (unV_ok h r1)
  case convert src dst x =>
    simp only [opP] at h
    replace h := Pr.go_bind_some h; obtain ⟨vx, f1, h1, h⟩ := h
    obtain ⟨rfl, r1⟩ := opr h1
    exact yields_ok hc (convV_ok hE h r1)
  case makeFunc fn first captured =>
    cases fn
    case func f =>
      simp only [opP] at h
      split at h
      · rename_i h0
        replace h := Pr.go_bind_some h; obtain ⟨l, f1, h1, h⟩ := h
        obtain ⟨rfl, r1⟩ := opnds_ok hs _ h1
        obtain ⟨rfl, rfl⟩ := go_ret h
        have hf : first = #[] := by simpa using h0
        subst hf
        refine ⟨rfl, .inl ⟨_, w, by simp [execOp, Instr.makeFunc]; rfl, ⟨rfl, rfl⟩, good_same hc ⟨_, ?_, r1⟩⟩⟩
        congr 1
        apply Array.ext'; simp
      · exact (go_fail h).elim
    all_goals exact (go_fail h).elim
  case slice t x lo hi mx =>
    cases mx
    case none =>
      simp only [opP] at h
      replace h := Pr.go_bind_some h; obtain ⟨vx, f1, h1, h⟩ := h
      obtain ⟨rfl, r1⟩ := opr h1
      replace h := Pr.go_bind_some h; obtain ⟨vl, f2, h2, h⟩ := h
      obtain ⟨rfl, r2⟩ := oopnd_ok h2 hs
      replace h := Pr.go_bind_some h; obtain ⟨vh, f3, h3, h⟩ := h
      obtain ⟨rfl, r3⟩ := oopnd_ok h3 hs
      have q2 : (vl = none ∧ lo.map a.eval = none) ∨ ∃ x y, vl = some x ∧ lo.map a.eval = some y ∧ RelV (view f3.reg loc S w.heap) x y := by
        rcases r2 with ⟨rfl, rfl⟩ | ⟨y, u, rfl, rfl, hr⟩
        · exact .inl ⟨rfl, rfl⟩
        · exact .inr ⟨u, _, rfl, rfl, hr⟩
      have q3 : (vh = none ∧ hi.map a.eval = none) ∨ ∃ x y, vh = some x ∧ hi.map a.eval = some y ∧ RelV (view f3.reg loc S w.heap) x y := by
        rcases r3 with ⟨rfl, rfl⟩ | ⟨y, u, rfl, rfl, hr⟩
        · exact .inl ⟨rfl, rfl⟩
        · exact .inr ⟨u, _, rfl, rfl, hr⟩
      split at h
      · obtain ⟨g1, u, g2, g3⟩ := reslice_ok hE h hc r1 q2 q3
        exact ⟨g1, .inl ⟨u, w, val_run g2, ⟨rfl, rfl⟩, g3⟩⟩
      · split at h
        · obtain ⟨g1, u, g2, g3⟩ := suf_ok hE h hc r1 q2 q3
          exact ⟨g1, .inl ⟨u, w, val_run g2, ⟨rfl, rfl⟩, g3⟩⟩
        · obtain ⟨g1, u, g2, g3⟩ := slice_ok hE h hc r1 q2 q3
          exact ⟨g1, .inl ⟨u, w, val_run g2, ⟨rfl, rfl⟩, g3⟩⟩
    case some mo =>
      cases lo
      case some lo =>
        cases hi
        case none => exact (go_fail h).elim
        rename_i ho
        simp only [opP] at h
        replace h := Pr.go_bind_some h; obtain ⟨vx, f1, h1, h⟩ := h
        obtain ⟨rfl, r1⟩ := opr h1
        replace h := Pr.go_bind_some h; obtain ⟨vl, f2, h2, h⟩ := h
        obtain ⟨rfl, r2⟩ := opr h2
        replace h := Pr.go_bind_some h; obtain ⟨vh, f3, h3, h⟩ := h
        obtain ⟨rfl, r3⟩ := opr h3
        replace h := Pr.go_bind_some h; obtain ⟨vm, f4, h4, h⟩ := h
        obtain ⟨rfl, r4⟩ := opr h4
        obtain ⟨g1, uu, g2, g3⟩ := full_ok hE h hc r1 (.inr ⟨_, _, rfl, rfl, r2⟩) ⟨_, _, rfl, rfl, r3⟩ r4
        exact ⟨g1, .inl ⟨uu, w, val_run g2, ⟨rfl, rfl⟩, g3⟩⟩
      cases hi
      case none => exact (go_fail h).elim
      rename_i ho
      simp only [opP] at h
      split at h
      case isFalse =>
        replace h := Pr.go_bind_some h; obtain ⟨vx, f1, h1, h⟩ := h
        obtain ⟨rfl, r1⟩ := opr h1
        replace h := Pr.go_bind_some h; obtain ⟨vh, f2, h2, h⟩ := h
        obtain ⟨rfl, r2⟩ := opr h2
        replace h := Pr.go_bind_some h; obtain ⟨vm, f3, h3, h⟩ := h
        obtain ⟨rfl, r3⟩ := opr h3
        obtain ⟨g1, uu, g2, g3⟩ := cut_ok hE h hc r1 r2 r3
        exact ⟨g1, .inl ⟨uu, w, val_run g2, ⟨rfl, rfl⟩, g3⟩⟩
      rename_i hz
      simp only [Bool.and_eq_true] at hz
      replace h := Pr.go_bind_some h; obtain ⟨vx, f1, h1, h⟩ := h
      obtain ⟨rfl, r1⟩ := opr h1
      obtain ⟨k1, e1⟩ := zeroOp_eval (a := a) hz.1
      obtain ⟨k2, e2⟩ := zeroOp_eval (a := a) hz.2
      have := yields_ok (P := P) hc (zeroV_ok (k1 := k1) (k2 := k2) hE h hc.core r1)
      simpa [execOp, e1, e2] using this
  case fieldAddr s x f =>
    simp only [opP] at h
    replace h := Pr.go_bind_some h; obtain ⟨vx, f1, h1, h⟩ := h
    obtain ⟨rfl, r1⟩ := opr h1
    exact yields_ok hc (fieldAddr_ok hE h hc.core r1)
  case field s x f =>
    simp only [opP] at h
    replace h := Pr.go_bind_some h; obtain ⟨vx, f1, h1, h⟩ := h
    obtain ⟨rfl, r1⟩ := opr h1
    exact yields_ok hc (field_ok hE h r1)
  case indexAddr t x i =>
    simp only [opP] at h
    replace h := Pr.go_bind_some h; obtain ⟨vx, f1, h1, h⟩ := h
    obtain ⟨rfl, r1⟩ := opr h1
    replace h := Pr.go_bind_some h; obtain ⟨vi, f2, h2, h⟩ := h
    obtain ⟨rfl, r2⟩ := opr h2
    exact yields_ok hc (indexAddr_ok hE h hc.core r1 r2)
  case index t x i =>
    simp only [opP] at h
    replace h := Pr.go_bind_some h; obtain ⟨vx, f1, h1, h⟩ := h
    obtain ⟨rfl, r1⟩ := opr h1
    replace h := Pr.go_bind_some h; obtain ⟨vi, f2, h2, h⟩ := h
    obtain ⟨rfl, r2⟩ := opr h2
    exact yields_ok hc (index_ok hE h r1 r2)
  case extract t i =>
    simp only [opP] at h
    replace h := Pr.go_bind_some h; obtain ⟨vx, f1, h1, h⟩ := h
    obtain ⟨rfl, r1⟩ := opr h1
    cases vx
    case tup l =>
      replace h := go_popt h; obtain ⟨y, hy, h⟩ := h
      obtain ⟨rfl, rfl⟩ := go_ret h
      exact yields_ok hc ⟨rfl, extract_ok hy r1⟩
    all_goals exact (go_fail h).elim
  case call c =>
    obtain ⟨callee, cargs, ctys⟩ := c
    simp only [opP] at h
    replace h := Pr.go_bind_some h; obtain ⟨args, f1, h1, h⟩ := h
    obtain ⟨rfl, r1⟩ := opnds_ok hs _ h1
    cases callee
    case value g =>
      simp only at h
      replace h := Pr.go_bind_some h; obtain ⟨vg, f2, h2, h⟩ := h
      obtain ⟨rfl, r2⟩ := opr h2
      cases vg
      case clos f caps =>
        obtain ⟨cus, e, r3⟩ := r2
        obtain ⟨g1, g2, g3⟩ := callV_ok hE h hG hc r1 r3
        refine ⟨g1, .inr (.inr ⟨f, _, w, ?_, g3⟩)⟩
        have := call_run (P := P) (us := cargs.toList.map a.eval) (cus := cus) (w := w) g2
        simp only [execOp, resolve, e]
        have e2 : (cargs.toList.map a.eval).toArray = cargs.map a.eval := by apply Array.ext'; simp
        rw [e2] at this
        exact this
      all_goals exact (go_fail h).elim
    case builtin b =>
      have hat : ∀ {l : List TypeId}, ctys.toList = l → ctys = l.toArray := fun e => by apply Array.ext'; simpa using e
      have har : cargs.map a.eval = (cargs.toList.map a.eval).toArray := by apply Array.ext'; simp
      cases b
      case len =>
        simp only at h
        split at h
        · rename_i x t e
          obtain ⟨u, us, e3, r2, r3⟩ := r1
          cases r3
          have := len_ok (P := P) (ty := type) hE h hc.core r2
          have e2 := hat e
          have hex : execOp a.eval { dst := dst, op := .call { callee := .builtin .len, args := cargs, argTypes := ctys }, type := type, pos := pos, after := after, guard := gd } =
              (do pure (Next.value (← Builtin.len_ #[t] type #[u])) : Sem Next) := by
            simp only [execOp, resolve, invoke, builtin, har, e3, e2]
            rfl
          rw [hex]
          exact yields_ok hc this
        · exact (go_fail h).elim
      case append =>
        simp only at h
        split at h
        · rename_i x y t t2 e
          obtain ⟨u, us, e3, r2, u2, us2, e4, r3, r4⟩ := r1
          cases r4
          subst e4
          obtain ⟨g1, uu, w1, g2, gsm, g3⟩ := append_ok (P := P) (ty := type) hE h hc r2 r3
          have e2 := hat e
          have hex : execOp a.eval { dst := dst, op := .call { callee := .builtin .append, args := cargs, argTypes := ctys }, type := type, pos := pos, after := after, guard := gd } =
              (do pure (Next.value (← Builtin.append_ #[t, t2] type #[u, u2])) : Sem Next) := by
            simp only [execOp, resolve, invoke, builtin, har, e3, e2]
            rfl
          rw [hex]
          exact ⟨g1, .inl ⟨uu, w1, val_run g2, gsm, g3⟩⟩
        · exact (go_fail h).elim
      case clear =>
        simp only at h
        split at h
        · rename_i x t e
          obtain ⟨u, us, e3, r2, r3⟩ := r1
          cases r3
          obtain ⟨g1, uu, w1, g2, gsm, g3⟩ := clear_ok (P := P) (ty := type) hE h hc r2
          have e2 := hat e
          have hex : execOp a.eval { dst := dst, op := .call { callee := .builtin .clear, args := cargs, argTypes := ctys }, type := type, pos := pos, after := after, guard := gd } =
              (do pure (Next.value (← Builtin.clear_ #[t] type #[u])) : Sem Next) := by
            simp only [execOp, resolve, invoke, builtin, har, e3, e2]
            rfl
          rw [hex]
          exact ⟨g1, .inl ⟨uu, w1, val_run g2, gsm, g3⟩⟩
        · exact (go_fail h).elim
      case delete =>
        simp only at h
        split at h
        · rename_i x y t t2 e
          obtain ⟨u, us, e3, r2, r3⟩ := r1
          obtain ⟨u2, us2, e4, r4, r5⟩ := r3
          cases r5
          rw [e4] at e3
          obtain ⟨g1, uu, w1, g2, gsm, g3⟩ := delete_ok (P := P) (ty := type) (t2 := t2) hE h hc r2 r4
          have e2 := hat e
          have hex : execOp a.eval { dst := dst, op := .call { callee := .builtin .delete, args := cargs, argTypes := ctys }, type := type, pos := pos, after := after, guard := gd } =
              (do pure (Next.value (← Builtin.delete_ #[t, t2] type #[u, u2])) : Sem Next) := by
            simp only [execOp, resolve, invoke, builtin, har, e3, e2]
            rfl
          rw [hex]
          exact ⟨g1, .inl ⟨uu, w1, val_run g2, gsm, g3⟩⟩
        · exact (go_fail h).elim
      case max =>
        have := mx_ok (P := P) (w := w) (ts := ctys) (ty := type) h r1
        have hex : execOp a.eval { dst := dst, op := .call { callee := .builtin .max, args := cargs, argTypes := ctys }, type := type, pos := pos, after := after, guard := gd } =
            (do pure (Next.value (← Builtin.max_ ctys type (cargs.toList.map a.eval).toArray)) : Sem Next) := by
          simp only [execOp, resolve, invoke, builtin, har]
          rfl
        rw [hex]
        exact yields_ok hc this
      case min =>
        have := mn_ok (P := P) (w := w) (ts := ctys) (ty := type) h r1
        have hex : execOp a.eval { dst := dst, op := .call { callee := .builtin .min, args := cargs, argTypes := ctys }, type := type, pos := pos, after := after, guard := gd } =
            (do pure (Next.value (← Builtin.min_ ctys type (cargs.toList.map a.eval).toArray)) : Sem Next) := by
          simp only [execOp, resolve, invoke, builtin, har]
          rfl
        rw [hex]
        exact yields_ok hc this
      all_goals exact (go_fail h).elim
    all_goals exact (go_fail h).elim
  all_goals exact (go_fail h).elim

end Go.Ev

set_option linter.unusedSimpArgs false
set_option linter.unusedVariables false
namespace Go.Ev
open Go

/-- The state of a call: V0 is the view with which it began. -/
def Inv (ds : List Deferred) (en : Ent) (V0 : Vw) (fr : Fr) (a : Act) (h : Array Obj) : Prop :=
  a.defers = ds ∧ ∃ loc S, Ctx en fr.reg loc S h ∧ RelVs (view fr.reg loc S h) fr.slots a.tmps.toList ∧ V0.le (view fr.reg loc S h)

/-- The same, the outside being as it was in w0. -/
def InvW (w0 : World) (ds : List Deferred) (en : Ent) (V0 : Vw) (fr : Fr) (a : Act) (w : World) : Prop := Inv ds en V0 fr a w.heap ∧ Sm w0 w

theorem put_list (a : Act) (d : Tmp) (u : Value) : (a.put (some d) u).tmps.toList = a.tmps.toList.set d u := by
  simp [Act.put]

theorem inv_put {ds : List Deferred} {en : Ent} {V0 : Vw} {fr fr' : Fr} {a : Act} {loc S} {h h' : Array Obj} {v : FV} {u : Value} {dst : Option Tmp} (hd : a.defers = ds) (hs : RelVs (view fr.reg loc S h) fr.slots a.tmps.toList)
    (h0 : V0.le (view fr.reg loc S h)) (hsl : fr'.slots = fr.slots) (hg : Good en fr.reg loc S h fr'.reg h' v u) :
    Inv ds en V0 (match dst with | some d => fr'.setS d v | none => fr') (a.put dst u) h' := by
  obtain ⟨loc1, S1, g1, g2, g3⟩ := hg
  have hs' := RelVs_mono g2 _ _ hs
  cases dst with
  | none => exact ⟨hd, loc1, S1, g1, by rw [hsl]; exact hs', Vw.le_trans h0 g2⟩
  | some d =>
    refine ⟨hd, loc1, S1, g1, ?_, Vw.le_trans h0 g2⟩
    rw [put_list, Fr.slots_setS, hsl]
    exact RelVs_set _ _ _ _ _ hs' g3

theorem putP_go {o : Oper} {p : Pr FV} {fr fr1 : Fr} {q : Unit} (h : (putP o p).go fr = some (q, fr1)) :
    ∃ v fr', p.go fr = some (v, fr') ∧ fr1 = (match o.dst with | some d => fr'.setS d v | none => fr') := by
  unfold putP at h
  replace h := Pr.go_bind_some h; obtain ⟨v, f2, h1, h⟩ := h
  refine ⟨v, f2, h1, ?_⟩
  cases hd : o.dst with
  | none => rw [hd] at h; obtain ⟨_, rfl⟩ := go_ret h; rfl
  | some d =>
    rw [hd] at h
    simp only [Pr.go, Option.some.injEq, Prod.mk.injEq] at h
    exact h.2.symm

/-- One operation that is wanted. -/
theorem op_wp {ds : List Deferred} {P : Program} {E : Env} (hE : EnvOk P E) {C : Cfg} {en : Ent} {V0 : Vw} (hG : E.gl V0.S V0.h) {o : Oper} {a : Act} {fr fr1 : Fr} {w0 w : World} {q : Unit} (h : (putP o (opP E C o)).go fr = some (q, fr1))
    (hi : InvW w0 ds en V0 fr a w) {K : Act → World → Prop} {Q : Exit → Act → World → Prop} (hK : ∀ a' w', InvW w0 ds en V0 fr1 a' w' → K a' w') : o.wp P a w K Q := by
  obtain ⟨⟨hd, loc, S, hc, hs, h0⟩, hm⟩ := hi
  obtain ⟨v, fr', h1, rfl⟩ := putP_go h
  obtain ⟨e1, hop⟩ := op_ok hE (hE.gm _ _ _ _ hG h0.S) h1 hc hs
  unfold Oper.wp
  rcases hop with ⟨u, w1, hr, hm1, hg⟩ | ⟨w1, hr, hm1, hg⟩ | ⟨f, args, w1, hr, hg⟩
  · rw [hr, Oper.upon_value]
    exact hK _ _ ⟨inv_put hd hs h0 e1 hg, hm.trans hm1⟩
  · rw [hr, Oper.upon_skip]
    exact hK _ _ ⟨inv_put hd hs h0 e1 hg, hm.trans hm1⟩
  · rw [hr, Oper.upon_enter]
    refine Calls.mono hg ?_
    rintro e w' ⟨u, rfl, hm1, hg'⟩
    exact hK _ _ ⟨inv_put hd hs h0 e1 hg', hm.trans hm1⟩

theorem skip_inv {ds : List Deferred} {en : Ent} {V0 : Vw} {o : Oper} {a : Act} {fr fr1 : Fr} {h : Array Obj} {q : Unit} (hg : (putP o (.ret .skp)).go fr = some (q, fr1)) (hi : Inv ds en V0 fr a h) : Inv ds en V0 fr1 (a.put o.dst undef) h := by
  obtain ⟨v, fr', h1, rfl⟩ := putP_go hg
  obtain ⟨rfl, rfl⟩ := go_ret h1
  obtain ⟨hd, loc, S, hc, hs, h0⟩ := hi
  exact inv_put hd hs h0 rfl (good_same hc rfl)

theorem RelVs_same {V : Vw} : ∀ (l : List FV) (us : List Value) (i : Nat) (v : FV) (u : Value), RelVs V l us → us[i]? = some u → RelV V v u → RelVs V (l.set i v) us
  | [], _, _, _, _, e, _, _ => e
  | _ :: _, _, 0, v, w, ⟨u, us, e, _, h2⟩, hu, h => by subst e; simp at hu; subst hu; exact ⟨_, us, rfl, h, h2⟩
  | _ :: l, _, i + 1, v, w, ⟨u, us, e, h1, h2⟩, hu, h => by subst e; simp at hu; exact ⟨u, us, rfl, h1, RelVs_same l us i v w h2 hu h⟩

theorem setS_same {fr : Fr} {g : Nat} {v : FV} (h : fr.slot g = v) (hv : v ≠ .undef) : fr.setS g v = fr := by
  unfold Fr.slot at h
  rw [List.getD_eq_getElem?_getD] at h
  cases he : fr.slots[g]? with
  | none => rw [he] at h; exact absurd h.symm hv
  | some x =>
    rw [he] at h
    simp at h; subst h
    obtain ⟨sl, rg⟩ := fr
    simp only [Fr.setS, Fr.mk.injEq, and_true]
    refine List.ext_getElem? fun j => ?_
    by_cases hj : g = j
    · subst hj
      have hlt : g < sl.length := (List.getElem?_eq_some_iff.1 he).1
      rw [List.getElem?_set_self hlt]; exact he.symm
    · rw [List.getElem?_set_ne hj]

/-- The same without the second writing of the guard. -/
def gop0 (E : Env) (C : Cfg) (ops : List Oper) (o : Oper) : Pr Unit := match o.guard with
  | none => putP o (opP E C o)
  | some (j, want) => match (ops[j]?).bind (·.dst) with
    | none => .fail
    | some g => .getS g fun v => match v with
      | .dat .bool b => .ite b (cond want (putP o (opP E C o)) (putP o (.ret .skp))) (cond want (putP o (.ret .skp)) (putP o (opP E C o)))
      | .skp => putP o (.ret .skp)
      | _ => .fail

theorem gop_go0 (E : Env) (C : Cfg) (ops : List Oper) (o : Oper) (fr : Fr) : (gop E C ops o).go fr = (gop0 E C ops o).go fr := by
  unfold gop gop0
  cases o.guard with
  | none => rfl
  | some jw =>
    obtain ⟨j, want⟩ := jw
    simp only
    cases (ops[j]?).bind (·.dst) with
    | none => rfl
    | some g =>
      simp only [Pr.go]
      cases hv : fr.slot g <;> try rfl
      case skp => simp only [Pr.go, setS_same hv (by simp)]
      case dat t x =>
        cases t <;> try rfl
        cases x with
        | true => simp only [Pr.go, if_true]; rw [show fr.setS g (dB true) = fr from setS_same hv (by simp [dB])]
        | false => simp only [Pr.go, Bool.false_eq_true, if_false]; rw [show fr.setS g (dB false) = fr from setS_same hv (by simp [dB])]

theorem gop_ok {ds : List Deferred} {P : Program} {E : Env} (hE : EnvOk P E) {C : Cfg} {en : Ent} {V0 : Vw} (hG : E.gl V0.S V0.h) {ops : Array Oper} {o : Oper} {a : Act} {fr fr1 : Fr} {w0 w : World} {q : Unit} (h : (gop E C ops.toList o).go fr = some (q, fr1))
    (hi : InvW w0 ds en V0 fr a w) {K : Act → World → Prop} {Q : Exit → Act → World → Prop} (hK : ∀ a' w', InvW w0 ds en V0 fr1 a' w' → K a' w') :
    if Region.wanted o (yielded ops a.tmps) then o.wp P a w K Q ∨ (o.asks P a w ∧ LetsOut Q) else K (a.put o.dst undef) w := by
  unfold gop at h
  cases hgd : o.guard with
  | none =>
    rw [hgd] at h
    rw [if_pos (by simp [Region.wanted, hgd])]
    exact .inl (op_wp hE hG h hi hK)
  | some jw =>
    obtain ⟨j, want⟩ := jw
    rw [hgd] at h
    simp only at h
    cases hd : (ops.toList[j]?).bind (·.dst) with
    | none => rw [hd] at h; exact (go_fail h).elim
    | some g =>
      rw [hd] at h
      simp only [Pr.go] at h
      have hd' : (ops[j]?).bind (·.dst) = some g := by rw [← hd, Array.getElem?_toList]
      have hwant : ∀ b, a.tmps[g]? = some (.bool b) → Region.wanted o (yielded ops a.tmps) = (b == want) := by
        intro b hb
        simp [Region.wanted, hgd, yielded, hd', hb]
      obtain ⟨⟨hdf, loc, S, hc, hs, h0⟩, hm⟩ := hi
      cases hv : fr.slot g <;> rw [hv] at h <;> first | exact (go_fail h).elim | skip
      case skp =>
        have hsk : ∃ u, a.tmps[g]? = some u ∧ u = undef := by
          unfold Fr.slot at hv
          rw [List.getD_eq_getElem?_getD] at hv
          cases hg : fr.slots[g]? with
          | none => rw [hg] at hv; simp at hv
          | some v =>
            rw [hg] at hv
            simp at hv; subst hv
            obtain ⟨u, h1, h2⟩ := RelVs_get _ _ _ _ hs hg
            exact ⟨u, by rw [← Array.getElem?_toList]; exact h1, h2⟩
        obtain ⟨u, hu, rfl⟩ := hsk
        have hw : Region.wanted o (yielded ops a.tmps) = false := by
          simp [Region.wanted, hgd, yielded, hd', hu, undef]
        rw [if_neg (by simp [hw])]
        simp only [Pr.go] at h
        rw [setS_same hv (by simp)] at h
        exact hK _ _ ⟨skip_inv h ⟨hdf, loc, S, hc, hs, h0⟩, hm⟩
      case dat t x =>
        cases t <;> simp only at h <;> first | exact (go_fail h).elim | skip
        have hb : a.tmps[g]? = some (.bool x) := by
          unfold Fr.slot at hv
          rw [List.getD_eq_getElem?_getD] at hv
          cases hg : fr.slots[g]? with
          | none => rw [hg] at hv; simp at hv
          | some v =>
            rw [hg] at hv
            simp at hv; subst hv
            obtain ⟨u, h1, h2⟩ := RelVs_get _ _ _ _ hs hg
            have : [u] = [Value.bool x] := h2
            rw [Array.getElem?_toList] at h1
            rw [h1]; simpa using this
        rw [hwant x hb]
        have hset : ∀ b, x = b → InvW w0 ds en V0 (fr.setS g (dB b)) a w := by
          rintro b rfl
          exact ⟨⟨hdf, loc, S, hc, RelVs_same _ _ _ _ _ hs (by rw [Array.getElem?_toList]; exact hb) rfl, h0⟩, hm⟩
        cases x with
        | true =>
          simp only [Pr.go, if_true] at h
          cases want with
          | true => rw [if_pos (show (true == true) = true from rfl)]; exact .inl (op_wp hE hG h (hset true rfl) hK)
          | false => rw [if_neg (by simp)]; exact hK _ _ ⟨skip_inv h (hset true rfl).1, hm⟩
        | false =>
          simp only [Pr.go, Bool.false_eq_true, if_false] at h
          cases want with
          | true => rw [if_neg (by simp)]; exact hK _ _ ⟨skip_inv h (hset false rfl).1, hm⟩
          | false => rw [if_pos (show (false == false) = true from rfl)]; exact .inl (op_wp hE hG h (hset false rfl) hK)

theorem runOps_ok {ds : List Deferred} {P : Program} {E : Env} (hE : EnvOk P E) {C : Cfg} {en : Ent} {V0 : Vw} (hG : E.gl V0.S V0.h) {ops : Array Oper} {ρ : Type} {w0 : World} {K : Fr → Option ρ} {r : ρ} {Q : Exit → Act → World → Prop}
    (hK : ∀ fr' a' w', K fr' = some r → InvW w0 ds en V0 fr' a' w' → Q .normal a' w') : ∀ (l : List Oper) (fr : Fr) (a : Act) (w : World), runOps E C ops.toList l fr K = some r → InvW w0 ds en V0 fr a w → wpList P ops Q l a w
  | [], fr, a, w, h, hi => hK fr a w h hi
  | o :: l, fr, a, w, h, hi => by
    simp only [runOps] at h
    rw [Pr.exec_go] at h
    cases hg : (gop E C ops.toList o).go fr with
    | none => rw [hg] at h; simp at h
    | some x =>
      obtain ⟨q, fr1⟩ := x
      rw [hg] at h
      simp only [Option.bind_some] at h
      exact gop_ok hE hG hg hi fun a' w' hi' => runOps_ok hE hG hK l fr1 a' w' h hi'

end Go.Ev

set_option linter.unusedSimpArgs false
set_option linter.unusedVariables false
namespace Go.Ev
open Go

/-! ### what a program reads and writes -/
def Pr.goT {α : Type} : Pr α → Fr → List Nat → List Nat → Option (α × Fr × List Nat × List Nat)
  | .ret a, fr, r, w => some (a, fr, r, w)
  | .fail, _, _, _ => none
  | .getS i k, fr, r, w => (k (fr.slot i)).goT fr (2 * i :: r) w
  | .getR i k, fr, r, w => (k (fr.reg i)).goT fr ((2 * i + 1) :: r) w
  | .setS i v k, fr, r, w => k.goT (fr.setS i v) r (2 * i :: w)
  | .setR i x k, fr, r, w => k.goT (fr.setR i x) r ((2 * i + 1) :: w)
  | .ite b p q, fr, r, w => if b then p.goT fr r w else q.goT fr r w
  | .opt o k, fr, r, w => match o with
    | some v => (k v).goT fr r w
    | none => none

theorem execT_goT {α ρ : Type} (p : Pr α) : ∀ (fr : Fr) (r w : List Nat) (K : α → Fr → List Nat → List Nat → Option ρ), p.execT fr r w K = (p.goT fr r w).bind fun x => K x.1 x.2.1 x.2.2.1 x.2.2.2 := by
  induction p with
  | ret a => intro fr r w K; rfl
  | fail => intro fr r w K; rfl
  | getS i k ih => intro fr r w K; exact ih _ fr _ _ K
  | getR i k ih => intro fr r w K; exact ih _ fr _ _ K
  | setS i v k ih => intro fr r w K; exact ih _ _ _ K
  | setR i x k ih => intro fr r w K; exact ih _ _ _ K
  | ite b p q ih1 ih2 => intro fr r w K; cases b <;> simp [Pr.execT, Pr.goT, ih1, ih2]
  | opt o k ih =>
    intro fr r w K
    cases o with
    | none => rfl
    | some v => exact ih v fr r w K

theorem goT_go {α : Type} (p : Pr α) : ∀ (fr : Fr) (r w : List Nat) (a : α) (fr1 : Fr) (r1 w1 : List Nat), p.goT fr r w = some (a, fr1, r1, w1) → p.go fr = some (a, fr1) := by
  induction p with
  | ret a => intro fr r w b fr1 r1 w1 h; simp [Pr.goT] at h; simp [Pr.go, h.1, h.2.1]
  | fail => intro fr r w b fr1 r1 w1 h; simp [Pr.goT] at h
  | getS i k ih => intro fr r w b fr1 r1 w1 h; exact ih _ fr _ _ _ _ _ _ h
  | getR i k ih => intro fr r w b fr1 r1 w1 h; exact ih _ fr _ _ _ _ _ _ h
  | setS i v k ih => intro fr r w b fr1 r1 w1 h; exact ih _ _ _ _ _ _ _ h
  | setR i x k ih => intro fr r w b fr1 r1 w1 h; exact ih _ _ _ _ _ _ _ h
  | ite c p q ih1 ih2 =>
    intro fr r w b fr1 r1 w1 h
    cases c
    · simp only [Pr.goT, Bool.false_eq_true, if_false] at h; simp only [Pr.go, Bool.false_eq_true, if_false]; exact ih2 _ _ _ _ _ _ _ h
    · simp only [Pr.goT, if_true] at h; simp only [Pr.go, if_true]; exact ih1 _ _ _ _ _ _ _ h
  | opt o k ih =>
    intro fr r w b fr1 r1 w1 h
    cases o with
    | none => simp [Pr.goT] at h
    | some v => simpa [Pr.go] using ih v _ _ _ _ _ _ _ h

theorem goT_acc {α : Type} (p : Pr α) : ∀ (fr : Fr) (r w w0 : List Nat), p.goT fr r (w ++ w0) = (p.goT fr r w).map fun x => (x.1, x.2.1, x.2.2.1, x.2.2.2 ++ w0) := by
  induction p with
  | ret a => intro fr r w w0; rfl
  | fail => intro fr r w w0; rfl
  | getS i k ih => intro fr r w w0; exact ih _ fr _ _ _
  | getR i k ih => intro fr r w w0; exact ih _ fr _ _ _
  | setS i v k ih => intro fr r w w0; exact ih _ _ (2 * i :: w) _
  | setR i x k ih => intro fr r w w0; exact ih _ _ ((2 * i + 1) :: w) _
  | ite b p q ih1 ih2 => intro fr r w w0; cases b <;> simp [Pr.goT, ih1, ih2]
  | opt o k ih =>
    intro fr r w w0
    cases o with
    | none => rfl
    | some v => exact ih v fr r w w0

theorem gop_goT0 {E : Env} {C : Cfg} {ops : List Oper} {o : Oper} {fr fr1 : Fr} {q : Unit} {r w : List Nat} (h : (gop E C ops o).goT fr [] [] = some (q, fr1, r, w)) :
    (gop0 E C ops o).goT fr [] [] = some (q, fr1, r, cond o.guard.isSome w.dropLast w) := by
  unfold gop at h
  unfold gop0
  cases hg : o.guard with
  | none => rw [hg] at h; exact h
  | some jw =>
    obtain ⟨j, want⟩ := jw
    rw [hg] at h
    simp only at h ⊢
    cases hd : (ops[j]?).bind (·.dst) with
    | none => rw [hd] at h; cases h
    | some g =>
      rw [hd] at h
      simp only [Pr.goT] at h ⊢
      have key : ∀ (p : Pr Unit), p.goT fr [2 * g] [2 * g] = some (q, fr1, r, w) → p.goT fr [2 * g] [] = some (q, fr1, r, w.dropLast) := by
        intro p hp
        rw [show ([2 * g] : List Nat) = [] ++ [2 * g] from rfl, goT_acc] at hp
        cases hx : p.goT fr ([] ++ [2 * g]) [] with
        | none => rw [hx] at hp; cases hp
        | some x =>
          rw [hx] at hp
          simp only [Option.map_some, Option.some.injEq, Prod.mk.injEq] at hp
          obtain ⟨h1, h2, h3, h4⟩ := hp
          rw [← h2, ← h3, ← h4]
          simp at hx
          simp [hx]
      cases hv : fr.slot g <;> rw [hv] at h <;> first | (cases h; done) | skip
      case skp =>
        simp only [Pr.goT] at h
        rw [setS_same hv (by simp)] at h
        exact key _ h
      case dat t x =>
        cases t <;> simp only at h <;> first | (cases h; done) | skip
        cases x with
        | true =>
          simp only [Pr.goT, if_true] at h ⊢
          rw [show fr.setS g (dB true) = fr from setS_same hv (by simp [dB])] at h
          exact key _ h
        | false =>
          simp only [Pr.goT, Bool.false_eq_true, if_false] at h ⊢
          rw [show fr.setS g (dB false) = fr from setS_same hv (by simp [dB])] at h
          exact key _ h

/-- A thing that is read or written. -/
def at_ (f : Fr) (x : Nat) : FV ⊕ Reg := if x % 2 = 0 then .inl (f.slot (x / 2)) else .inr (f.reg (x / 2))

theorem at_slot (f : Fr) (i : Nat) : at_ f (2 * i) = .inl (f.slot i) := by simp [at_, Nat.mul_mod_right]
theorem at_reg (f : Fr) (i : Nat) : at_ f (2 * i + 1) = .inr (f.reg i) := by
  have h1 : (2 * i + 1) % 2 = 1 := by omega
  have h2 : (2 * i + 1) / 2 = i := by omega
  simp [at_, h1, h2]

theorem slot_setS (f : Fr) (i : Nat) (v : FV) (j : Nat) : (f.setS i v).slot j = if i = j ∧ i < f.slots.length then v else f.slot j := by
  unfold Fr.slot
  simp only [Fr.slots_setS, List.getD_eq_getElem?_getD]
  by_cases h : i = j
  · subst h
    by_cases hl : i < f.slots.length
    · simp [hl]
    · rw [if_neg (by omega)]; rw [List.getElem?_eq_none (by simp; omega), List.getElem?_eq_none (by omega)]
  · rw [List.getElem?_set_ne h, if_neg (by omega)]

theorem at_setS (f : Fr) (i : Nat) (v : FV) (x : Nat) : at_ (f.setS i v) x = if x = 2 * i ∧ i < f.slots.length then .inl v else at_ f x := by
  unfold at_
  by_cases h : x % 2 = 0
  · rw [if_pos h, if_pos h, slot_setS]
    by_cases hx : x = 2 * i ∧ i < f.slots.length
    · rw [if_pos hx, if_pos ⟨by omega, hx.2⟩]
    · rw [if_neg hx, if_neg]; rintro ⟨h1, h2⟩; exact hx ⟨by omega, h2⟩
  · rw [if_neg h, if_neg h, if_neg (by omega)]; rfl

theorem at_setR (f : Fr) (i : Nat) (r : Reg) (x : Nat) : at_ (f.setR i r) x = if x = 2 * i + 1 then .inr r else at_ f x := by
  unfold at_
  by_cases h : x % 2 = 0
  · rw [if_pos h, if_pos h, if_neg (by omega)]; rfl
  · rw [if_neg h, if_neg h, Fr.reg_setR]
    by_cases hx : x = 2 * i + 1
    · rw [if_pos hx, if_pos (by omega)]
    · rw [if_neg hx, if_neg (by omega)]

/-- A program depends on what it reads alone. -/
theorem goT_local {α : Type} (p : Pr α) : ∀ (f g : Fr) (r w : List Nat) (a : α) (f1 : Fr) (r1 w1 : List Nat), p.goT f r w = some (a, f1, r1, w1) → f.slots.length = g.slots.length →
    (∀ x ∈ r1, x ∉ r → at_ f x = at_ g x) → ∀ (r2 : List Nat), (∀ x ∈ r, x ∈ r2 → True) →
    (∀ x ∈ r, x ∈ r1) ∧ (∀ x ∈ w, x ∈ w1) := by
  induction p with
  | ret a => intro f g r w b f1 r1 w1 h _ _ _ _; simp [Pr.goT] at h; obtain ⟨_, _, rfl, rfl⟩ := h; exact ⟨fun _ h => h, fun _ h => h⟩
  | fail => intro f g r w b f1 r1 w1 h; simp [Pr.goT] at h
  | getS i k ih =>
    intro f g r w b f1 r1 w1 h hl hx r2 hr2
    obtain ⟨h1, h2⟩ := ih _ f f _ _ _ _ _ _ h rfl (fun _ _ _ => rfl) [] (fun _ _ _ => trivial)
    exact ⟨fun x hx => h1 x (by simp [hx]), h2⟩
  | getR i k ih =>
    intro f g r w b f1 r1 w1 h hl hx r2 hr2
    obtain ⟨h1, h2⟩ := ih _ f f _ _ _ _ _ _ h rfl (fun _ _ _ => rfl) [] (fun _ _ _ => trivial)
    exact ⟨fun x hx => h1 x (by simp [hx]), h2⟩
  | setS i v k ih =>
    intro f g r w b f1 r1 w1 h hl hx r2 hr2
    obtain ⟨h1, h2⟩ := ih _ (f.setS i v) _ _ _ _ _ _ h rfl (fun _ _ _ => rfl) [] (fun _ _ _ => trivial)
    exact ⟨h1, fun x hx => h2 x (by simp [hx])⟩
  | setR i v k ih =>
    intro f g r w b f1 r1 w1 h hl hx r2 hr2
    obtain ⟨h1, h2⟩ := ih _ (f.setR i v) _ _ _ _ _ _ h rfl (fun _ _ _ => rfl) [] (fun _ _ _ => trivial)
    exact ⟨h1, fun x hx => h2 x (by simp [hx])⟩
  | ite c p q ih1 ih2 =>
    intro f g r w b f1 r1 w1 h hl hx r2 hr2
    cases c
    · simp only [Pr.goT, Bool.false_eq_true, if_false] at h; exact ih2 f f _ _ _ _ _ _ h rfl (fun _ _ _ => rfl) [] (fun _ _ _ => trivial)
    · simp only [Pr.goT, if_true] at h; exact ih1 f f _ _ _ _ _ _ h rfl (fun _ _ _ => rfl) [] (fun _ _ _ => trivial)
  | opt o k ih =>
    intro f g r w b f1 r1 w1 h hl hx r2 hr2
    cases o with
    | none => simp [Pr.goT] at h
    | some v => exact ih v f f _ _ _ _ _ _ h rfl (fun _ _ _ => rfl) [] (fun _ _ _ => trivial)

theorem goT_grows {α : Type} {p : Pr α} {f f1 : Fr} {r w r1 w1 : List Nat} {a : α} (h : p.goT f r w = some (a, f1, r1, w1)) : (∀ x ∈ r, x ∈ r1) ∧ (∀ x ∈ w, x ∈ w1) :=
  goT_local p f f r w a f1 r1 w1 h rfl (fun _ _ _ => rfl) [] (fun _ _ _ => trivial)

theorem goT_same {α : Type} (p : Pr α) : ∀ (f g : Fr) (r w : List Nat) (a : α) (f1 : Fr) (r1 w1 : List Nat), p.goT f r w = some (a, f1, r1, w1) → f.slots.length = g.slots.length →
    (∀ x ∈ r1, at_ f x = at_ g x) → ∃ g1, p.goT g r w = some (a, g1, r1, w1) ∧ f1.slots.length = f.slots.length ∧ g1.slots.length = g.slots.length ∧
      (∀ x, at_ f x = at_ g x → at_ f1 x = at_ g1 x) ∧ (∀ x, x ∉ w1 → at_ f1 x = at_ f x ∧ at_ g1 x = at_ g x) ∧ (∀ x ∈ w1, x ∈ w ∨ at_ f1 x = at_ g1 x) := by
  induction p with
  | ret a =>
    intro f g r w b f1 r1 w1 h hl hx
    simp [Pr.goT] at h
    obtain ⟨rfl, rfl, rfl, rfl⟩ := h
    exact ⟨g, rfl, rfl, rfl, fun _ h => h, fun _ _ => ⟨rfl, rfl⟩, fun x hx => .inl hx⟩
  | fail => intro f g r w b f1 r1 w1 h; simp [Pr.goT] at h
  | getS i k ih =>
    intro f g r w b f1 r1 w1 h hl hx
    simp only [Pr.goT] at h
    have hin := (goT_grows h).1 (2 * i) (by simp)
    have he := hx _ hin
    rw [at_slot, at_slot] at he
    simp at he
    obtain ⟨g1, h1, h2⟩ := ih _ f g _ _ _ _ _ _ h hl hx
    exact ⟨g1, by simp only [Pr.goT]; rw [← he]; exact h1, h2⟩
  | getR i k ih =>
    intro f g r w b f1 r1 w1 h hl hx
    simp only [Pr.goT] at h
    have hin := (goT_grows h).1 (2 * i + 1) (by simp)
    have he := hx _ hin
    rw [at_reg, at_reg] at he
    simp at he
    obtain ⟨g1, h1, h2⟩ := ih _ f g _ _ _ _ _ _ h hl hx
    exact ⟨g1, by simp only [Pr.goT]; rw [← he]; exact h1, h2⟩
  | setS i v k ih =>
    intro f g r w b f1 r1 w1 h hl hx
    simp only [Pr.goT] at h
    have hag : ∀ x, at_ f x = at_ g x → at_ (f.setS i v) x = at_ (g.setS i v) x := by
      intro x hx; rw [at_setS, at_setS, hl]; split <;> simp [hx]
    obtain ⟨g1, h1, h2, h3, h4, h5, h6⟩ := ih _ (g.setS i v) _ _ _ _ _ _ h (by simpa using hl) (fun x hx' => hag x (hx x hx'))
    refine ⟨g1, h1, by simpa using h2, by simpa using h3, fun x hx' => h4 x (hag x hx'), fun x hx' => ?_, fun x hx' => ?_⟩
    · have hne : x ≠ 2 * i := fun e => hx' ((goT_grows h).2 x (by simp [e]))
      obtain ⟨k1, k2⟩ := h5 x hx'
      rw [at_setS, if_neg (by simp [hne])] at k1 k2
      exact ⟨k1, k2⟩
    · rcases h6 x hx' with hm | hm
      · rcases List.mem_cons.1 hm with rfl | hm
        · right
          by_cases hlt : i < f.slots.length
          · apply h4; rw [at_setS, at_setS, if_pos ⟨rfl, hlt⟩, if_pos ⟨rfl, by omega⟩]
          · apply h4; rw [at_setS, at_setS, if_neg (by omega), if_neg (by omega), at_slot, at_slot]
            simp only [Fr.slot, List.getD_eq_getElem?_getD]
            rw [List.getElem?_eq_none (by omega), List.getElem?_eq_none (by omega)]
        · exact .inl hm
      · exact .inr hm
  | setR i v k ih =>
    intro f g r w b f1 r1 w1 h hl hx
    simp only [Pr.goT] at h
    have hag : ∀ x, at_ f x = at_ g x → at_ (f.setR i v) x = at_ (g.setR i v) x := by
      intro x hx; rw [at_setR, at_setR]; split <;> simp [hx]
    obtain ⟨g1, h1, h2, h3, h4, h5, h6⟩ := ih _ (g.setR i v) _ _ _ _ _ _ h (by simpa using hl) (fun x hx' => hag x (hx x hx'))
    refine ⟨g1, h1, by simpa using h2, by simpa using h3, fun x hx' => h4 x (hag x hx'), fun x hx' => ?_, fun x hx' => ?_⟩
    · have hne : x ≠ 2 * i + 1 := fun e => hx' ((goT_grows h).2 x (by simp [e]))
      obtain ⟨k1, k2⟩ := h5 x hx'
      rw [at_setR, if_neg hne] at k1 k2
      exact ⟨k1, k2⟩
    · rcases h6 x hx' with hm | hm
      · rcases List.mem_cons.1 hm with rfl | hm
        · right; apply h4; rw [at_setR, at_setR, if_pos rfl, if_pos rfl]
        · exact .inl hm
      · exact .inr hm
  | ite c p q ih1 ih2 =>
    intro f g r w b f1 r1 w1 h hl hx
    cases c
    · simp only [Pr.goT, Bool.false_eq_true, if_false] at h ⊢; exact ih2 f g _ _ _ _ _ _ h hl hx
    · simp only [Pr.goT, if_true] at h ⊢; exact ih1 f g _ _ _ _ _ _ h hl hx
  | opt o k ih =>
    intro f g r w b f1 r1 w1 h hl hx
    cases o with
    | none => simp [Pr.goT] at h
    | some v => exact ih v f g _ _ _ _ _ _ h hl hx

theorem fr_ext {f g : Fr} (hl : f.slots.length = g.slots.length) (h : ∀ x, at_ f x = at_ g x) : f.slots = g.slots ∧ f.reg = g.reg := by
  constructor
  · apply List.ext_getElem? ; intro i
    by_cases hi : i < f.slots.length
    · have := h (2 * i)
      rw [at_slot, at_slot] at this
      simp only [Sum.inl.injEq, Fr.slot, List.getD_eq_getElem?_getD] at this
      rw [List.getElem?_eq_getElem hi, List.getElem?_eq_getElem (by omega)] at this ⊢
      simpa using this
    · rw [List.getElem?_eq_none (by omega), List.getElem?_eq_none (by omega)]
  · funext k
    have := h (2 * k + 1)
    rw [at_reg, at_reg] at this
    simpa using this

end Go.Ev
