import Derived.Test.YthfjmlcienfloaaGreatDoorA4
import Derived.Lib.SmallJoins
import Derived.Lib.LaidTab
import Derived.Shelf.Strconv.Itoa3
import Derived.Shelf.Strconv.Atoi
import Derived.Shelf.Sort.Plain
import Derived.Sort.LoopGhostIn
import Derived.Sort.KeysCollected
import Derived.Lib.Bytealg
import Derived.Lib.SlTrimSet
import Derived.Test.YthfjmlcienfloaaGreatDoorProg
import Derived.WalkKit
import Derived.ProofKit
import Derived.OpenShut
import Derived.ChangeOld
import Derived.Carry
import Derived.SizedLaws
set_option linter.unusedVariables false
set_option linter.unusedSimpArgs false
namespace Go.Ev
open Go Go.RowKit

/-- What is known of a table among the program's variables. -/
def gTab (P : Program) (S : Nat → Prop) (h : Array Obj) : Prop :=
  ∃ g, P.globalNamed "internal/strconv.uint64pow10" = some g ∧ S g ∧ ∀ w : World, w.heap = h → Lib.TabIs P w "internal/strconv.uint64pow10" .u64 Lib.pow10Tab

theorem gTab_mono {P : Program} (S S' : Nat → Prop) (h h' : Array Obj) (hg : gTab P S h) (hs : ∀ b, S b → S' b ∧ h'[b]? = h[b]?) : gTab P S' h' := by
  obtain ⟨g, h1, h2, h3⟩ := hg
  refine ⟨g, h1, (hs g h2).1, fun w hw => ?_⟩
  have := h3 { w with heap := h } rfl
  unfold Lib.TabIs World.var? at this ⊢
  rw [h1] at this ⊢
  simp only [Option.bind_some] at this ⊢
  rw [hw, (hs g h2).2]
  exact this

theorem gTab_at {P : Program} {S : Nat → Prop} {w : World} (h : gTab P S w.heap) : Lib.TabIs P w "internal/strconv.uint64pow10" .u64 Lib.pow10Tab := by
  obtain ⟨g, _, _, h3⟩ := h
  exact h3 w rfl

theorem gTab_of {P : Program} {w : World} (h : Lib.TabIs P w "internal/strconv.uint64pow10" .u64 Lib.pow10Tab) : gTab P (fun b => b < w.heap.size) w.heap := by
  have h0 := h
  unfold Lib.TabIs World.var? at h
  cases hg : P.globalNamed "internal/strconv.uint64pow10" with
  | none => rw [hg] at h; cases h
  | some g =>
    rw [hg] at h
    simp only [Option.bind_some] at h
    refine ⟨g, hg, ?_, fun w' hw => ?_⟩
    · split at h
      · rename_i cs _ _ hb; exact (Array.getElem?_eq_some_iff.1 hb).1
      · cases h
    · unfold Lib.TabIs World.var? at h0 ⊢
      rw [hg] at h0 ⊢
      simp only [Option.bind_some] at h0 ⊢
      rw [hw]; exact h0

/-- A table anywhere on the list. -/
theorem tab_in {P : Program} {W : World} {name : String} {k : IntKind} {zs : List Int} {g : Nat} {t e : TypeId} {n : Nat}
    (hg : P.globalNamed name = some g) (hty : (P.globals[g]?).map (·.type) = some t) (ht : P.underlying t = some (.array n e)) (he : P.underlying e = some (.int k)) (hce : P.cellsOf e = 1) (hct : P.cellsOf t = n) :
    ∀ (laid : List (String × DataW Unit)) (ps : List MemPlace), DataW.LaidVars P W laid ps → (name, Lib.tabData k zs) ∈ laid → Lib.TabIs P W name k zs
  | [], _, _, hm => by cases hm
  | x :: rest, ps, hl, hm => by
    obtain ⟨nm, d⟩ := x
    obtain ⟨g', t', cs, fuel, p, q, hg', ht', hvar, hd, hrest, _⟩ := hl
    rcases List.mem_cons.1 hm with h | h
    · cases h
      obtain rfl := Option.some.inj (hg.symm.trans hg')
      obtain rfl := Option.some.inj (hty.symm.trans ht')
      unfold Lib.TabIs
      rw [hvar, ← Lib.cells_of_tab ht he hce hct hd]
    · exact tab_in hg hty ht he hce hct rest q hrest h

/-- The table at a place of the list that is known. -/
theorem tab_laid {P : Program} {W : World} {laid : List (String × DataW Unit)} {g : Nat} {t e : TypeId} {i : Nat}
    (hg : P.globalNamed "internal/strconv.uint64pow10" = some g) (hty : (P.globals[g]?).map (·.type) = some t) (ht : P.underlying t = some (.array 20 e)) (he : P.underlying e = some (.int .u64)) (hce : P.cellsOf e = 1) (hct : P.cellsOf t = 20)
    (h : laidMetH P laid W) (hi : (laid.filter fun x => x.2.handleName?.isNone)[i]? = some ("internal/strconv.uint64pow10", Lib.tabData .u64 Lib.pow10Tab)) : Lib.TabIs P W "internal/strconv.uint64pow10" .u64 Lib.pow10Tab := by
  have key : ∀ l : List (String × DataW Unit), (l.filter fun x : String × DataW Unit => x.2.handleName?.isSome) = [] → (l.filter fun x => x.2.handleName?.isNone) = l := by
    intro l hl
    rw [List.filter_eq_self]
    intro x hx
    have := List.filter_eq_nil_iff.1 hl x hx
    cases hh : x.2.handleName? with
    | none => rfl
    | some s => rw [hh] at this; exact absurd rfl this
  unfold laidMetH at h
  split at h
  · rename_i hf
    rw [key _ hf] at hi
    obtain ⟨ps, hl, _⟩ := h
    exact tab_in hg hty ht he hce hct _ ps hl (List.mem_of_getElem? hi)
  · obtain ⟨⟨ps, hl, _⟩, _⟩ := h
    exact tab_in hg hty ht he hce hct _ ps hl (List.mem_of_getElem? hi)

theorem env_tab {P : Program} {l : List (Nat × TI)} (h : (l.all fun p => okTI P p.1 p.2) = true) : EnvOk P ⟨ttOf l, fun _ => none, gTab P, fun _ => none⟩ :=
  ⟨fun t ti ht => okTI_spec (all_okTI h (ttOf_mem l t ti ht)), (fun f s hs => by cases hs), fun S S' h h' hg hs => gTab_mono S S' h h' hg hs, (fun g t hg => by cases hg)⟩

/-- A contract of the shelf with several results. -/
theorem pureL_sound {P : Program} {G : (Nat → Prop) → Array Obj → Prop} {f : FuncId} {md : List Bool} {ret : Bool} {ts : List Tc} {ok : Tup ts → Bool} {pat : Fr} {out : Tup ts → List FV}
    (hp : ∀ x, fillF pat (undats ts x) = ⟨undats ts x, []⟩)
    (h : ∀ x, ok x = true → ∀ (w : World) (V : Vw) (vals : List Value), V.h = w.heap → G V.S w.heap → RelVs V (undats ts x) vals →
      Calls P f vals.toArray w fun e w' => ∃ u, e = .returned u ∧ RowKit.Below w.heap.size w w' ∧ ∀ V', RelV V' (resFV (out x)) u) :
    Sound P G f (genS md ret pat ts ok (fun x => ⟨out x, []⟩)) := by
  refine gen_of (P := P) (G := G) (f := f) (fun pk o => ∀ (vals : List Value) (w : World) (loc : Nat → Loc) (S : Nat → Prop), Core pk.reg loc S w.heap → G S w.heap →
    RelVs (view pk.reg loc S w.heap) pk.slots vals →
    Calls P f vals.toArray w fun e w' => ∃ u, e = .returned u ∧ Sm w w' ∧ ∃ loc' S', Ctx (entOf pk loc S w.heap) o.reg loc' S' w'.heap ∧
      (view pk.reg loc S w.heap).le (view o.reg loc' S' w'.heap) ∧ RelV (view o.reg loc' S' w'.heap) (resFV o.slots) u) ?_
  intro x hx vals w loc S hc hg hv
  rw [hp] at hc hv ⊢
  refine (h x hx w (view (Fr.reg ⟨undats ts x, []⟩) loc S w.heap) vals rfl hg hv).mono ?_
  rintro e w' ⟨u, rfl, hb, hu⟩
  refine ⟨u, rfl, ⟨hb.os, hb.output⟩, loc, S, ⟨⟨fun _ => trivial, fun _ _ h => h.elim, fun _ h => h.elim, fun b hb' => Nat.lt_of_lt_of_le (hc.bS b hb') hb.size⟩,
    ⟨hb.size, fun b hb' _ => hb.block b hb', fun _ h => h, fun _ h => .inl h, fun _ h => h.elim, fun _ _ ⟨_, h, _⟩ => h.elim, hc.bS, fun _ h => by cases h⟩⟩,
    ⟨fun _ _ h => h.elim, fun _ _ _ h => h.elim, fun _ _ _ _ h => h.elim, fun _ _ h => h.elim, fun b hb' => ⟨hb', hb.block b (hc.bS b hb')⟩⟩, ?_⟩
  exact hu _

def itoaZ (n : Int) : Bytes := Lib.itoa n
def atoiOkB (s : Bytes) : Bool := decide (s.length ≤ 18) && (Lib.atoi s).isSome
def atoiZ (s : Bytes) : Int := (Lib.atoi s).getD 0

theorem itoa_sound {P : Program} {ρ : Shelf.Ren} (L : Proofs.LaysM.n171 P ρ) {ret : Bool} :
    Sound P (gTab P) (ρ.f 171) (genS [true] ret ⟨[.undef], []⟩ [.int .i64] (fun x => decide (-9223372036854775808 ≤ x.1) && decide (x.1 ≤ 9223372036854775807)) (fun x => ⟨[.dat .str (itoaZ x.1)], []⟩)) := by
  refine pureL_sound (ts := [.int .i64]) (out := fun x => [.dat .str (itoaZ x.1)]) (fun _ => rfl) ?_
  rintro ⟨n, _⟩ hok w V vals hV hG ⟨u1, us, rfl, h1, rfl⟩
  cases h1
  have hok' : (decide (-9223372036854775808 ≤ n) && decide (n ≤ 9223372036854775807)) = true := hok
  simp only [Bool.and_eq_true, decide_eq_true_eq] at hok'
  refine (Proofs.Any.strconv_Itoa L n hok'.1 hok'.2 w (gTab_at hG)).mono ?_
  rintro e w' ⟨rfl, k, os, rfl⟩
  refine ⟨_, rfl, ⟨rfl, rfl, rfl, by simp [Sort.grow, World.drewN], fun b hb => ?_⟩, fun V' => rfl⟩
  rw [Sort.heap_grow_old _ _ (by simpa [World.drewN] using hb)]
  rfl

theorem atoi_sound {P : Program} {G : (Nat → Prop) → Array Obj → Prop} {ρ : Shelf.Ren} (L : Proofs.Lays.n172 P ρ) {ret : Bool} :
    Sound P G (ρ.f 172) (genS [true] ret ⟨[.undef], []⟩ [.str] (fun x => atoiOkB x.1) (fun x => ⟨[.dat (.int .i64) (atoiZ x.1), .nili], []⟩)) := by
  refine pureL_sound (ts := [.str]) (out := fun x => [.dat (.int .i64) (atoiZ x.1), .nili]) (fun _ => rfl) ?_
  rintro ⟨s, _⟩ hok w V vals hV hG ⟨u1, us, rfl, h1, rfl⟩
  cases h1
  have hok' : (decide (List.length s ≤ 18) && (Lib.atoi s).isSome) = true := hok
  simp only [Bool.and_eq_true, decide_eq_true_eq] at hok'
  obtain ⟨n, hn⟩ := Option.isSome_iff_exists.1 hok'.2
  refine (Proofs.Any.strconv_Atoi L ⟨List.toArray s⟩ n (by show (List.toArray s).size ≤ 18; simpa using hok'.1) (by simpa using hn) w).mono ?_
  rintro e w' ⟨rfl, t, rfl⟩
  refine ⟨_, rfl, Joins.below_bytesWorld _ w _ _ (Nat.le_refl _), fun V' => ⟨[_, _], rfl, _, _, rfl, ?_, _, _, rfl, rfl, rfl⟩⟩
  show RelVal V'.S V'.h (.int .i64) (atoiZ s) (.int .i64 n)
  unfold atoiZ
  rw [hn]; rfl
end Go.Ev

set_option linter.unusedVariables false
set_option linter.unusedSimpArgs false
namespace Go.Ev
open Go Go.RowKit

/-! ### a slice that is sorted where it lies, by the shelf's contract -/
theorem inplace_sound {P : Program} {G : (Nat → Prop) → Array Obj → Prop} {f : FuncId} {t : Tc} [Inhabited t.den] {enc : t.den → Value} (hs : t.size = 1) (he : ∀ S h x cs, RelD S h t x cs ↔ cs = [enc x])
    {ok : List t.den → Bool} {g : List t.den → List t.den} (hl : ∀ xs, (g xs).length = xs.length) (hne : ∀ xs, ok xs = true → xs ≠ [])
    (h : ∀ xs, ok xs = true → ∀ blk off cap (w : World), Sort.Holds enc w blk off xs.toArray → blk < w.heap.size → Calls P f #[.slice (some ⟨blk, off, none⟩) xs.length cap] w fun e w' =>
      e = .returned (.tuple #[]) ∧ ∃ n os, w' = Sort.grow (Sort.putRow enc (Sort.ahead w n) blk off (g xs).toArray) os) :
    Sound P G f (genS [false] true ⟨[.slc 0], [(0, .arr t [])]⟩ [.slice t] (fun x => ok x.1) (fun x => ⟨[], [(0, .arr t (g x.1))]⟩)) := by
  refine gen_of (P := P) (G := G) (f := f) (fun pk o => ∀ (vals : List Value) (w : World) (loc : Nat → Loc) (S : Nat → Prop), Core pk.reg loc S w.heap → G S w.heap →
    RelVs (view pk.reg loc S w.heap) pk.slots vals →
    Calls P f vals.toArray w fun e w' => ∃ u, e = .returned u ∧ Sm w w' ∧ ∃ loc' S', Ctx (entOf pk loc S w.heap) o.reg loc' S' w'.heap ∧
      (view pk.reg loc S w.heap).le (view o.reg loc' S' w'.heap) ∧ RelV (view o.reg loc' S' w'.heap) (resFV o.slots) u) ?_
  intro x hx vals w loc S hc hg hv
  obtain ⟨xs, _⟩ := x
  have hpk : fillF ⟨[.slc 0], [(0, .arr t [])]⟩ (undats [.slice t] (xs, ())) = ⟨[.slc 0], [(0, .arr t xs)]⟩ := rfl
  rw [hpk] at hc hv ⊢
  simp only at hx
  have hr0 : ∀ (ys : List t.den) (sl : List FV), Fr.reg ⟨sl, [(0, .arr t ys)]⟩ 0 = .arr t ys := fun _ _ => rfl
  have hrk : ∀ (ys : List t.den) (sl : List FV) (k : Nat), k ≠ 0 → Fr.reg ⟨sl, [(0, .arr t ys)]⟩ k = .abs := fun ys sl k hk => by
    show cond (Nat.beq 0 k) _ _ = _
    cases k with
    | zero => exact absurd rfl hk
    | succ k => rfl
  obtain ⟨v, us, rfl, hv0, rfl⟩ := hv
  have hv1 : slRel (Fr.reg ⟨[.slc 0], [(0, .arr t xs)]⟩) loc S w.heap 0 v := hv0
  simp only [slRel, hr0] at hv1
  have hreg := hc.reg 0
  rw [hr0] at hreg
  rcases hreg with ⟨_, hx0⟩ | ⟨hnil, c, e, hb, q1, q2, q3⟩
  · exact absurd hx0 (hne xs hx)
  have hb2 : w.heap[(loc 0).blk]? = some (.cells c e (0, 0)) := hb
  have hlt : (loc 0).blk < w.heap.size := (Array.getElem?_eq_some_iff.1 hb2).1
  have hcell : ∀ (i : Nat) (x : t.den), xs[i]? = some x → c[(loc 0).off + i]? = some (enc x) := by
    intro i x hi
    obtain ⟨ecs, g1, g2⟩ := q3 i x hi
    rw [(he _ _ _ _).1 g1] at g2
    have := g2 0 (enc x) rfl
    rw [hs] at this
    simpa using this
  have hholds : Sort.Holds enc w (loc 0).blk (loc 0).off xs.toArray := by
    intro j hj
    have hj' : j < xs.length := by simpa using hj
    have hx1 : xs[j]? = some (xs.toArray[j]!) := by simp [hj']
    refine ⟨?_, by simp [World.frozen?, hb2]⟩
    simp [World.cell?, hb2, hcell j _ hx1]
  subst hv1
  have hhd : hdl (loc 0) xs.length = .slice (some ⟨(loc 0).blk, (loc 0).off, none⟩) xs.length (loc 0).cap := by simp [hdl, hnil]
  rw [hhd]
  refine (h xs hx _ _ (loc 0).cap w hholds hlt).mono ?_
  rintro e' w' ⟨rfl, n, os, rfl⟩
  have hold : ∀ b, b < w.heap.size → b ≠ (loc 0).blk → (Sort.grow (Sort.putRow enc (Sort.ahead w n) (loc 0).blk (loc 0).off (g xs).toArray) os).heap[b]? = w.heap[b]? := by
    intro b hb' hne'
    rw [Sort.heap_grow_old _ _ (by simpa [Sort.putRow, Sort.mapBlock, Sort.ahead] using hb')]
    simp [Sort.putRow, Sort.mapBlock, Sort.ahead, Array.getElem?_modify, Ne.symm hne']
  have hnew : (Sort.grow (Sort.putRow enc (Sort.ahead w n) (loc 0).blk (loc 0).off (g xs).toArray) os).heap[(loc 0).blk]? = some (.cells (Sort.putCells enc (loc 0).off (g xs).toArray c) e (0, 0)) := by
    rw [Sort.heap_grow_old _ _ (by simpa [Sort.putRow, Sort.mapBlock, Sort.ahead] using hlt)]
    simp [Sort.putRow, Sort.mapBlock, Sort.ahead, Array.getElem?_modify, hb2, Sort.onCells]
  have hsz : w.heap.size ≤ (Sort.grow (Sort.putRow enc (Sort.ahead w n) (loc 0).blk (loc 0).off (g xs).toArray) os).heap.size := by
    simp [Sort.grow, Sort.putRow, Sort.mapBlock, Sort.ahead]
  have hsm : Sm w (Sort.grow (Sort.putRow enc (Sort.ahead w n) (loc 0).blk (loc 0).off (g xs).toArray) os) := ⟨rfl, rfl⟩
  generalize Sort.grow (Sort.putRow enc (Sort.ahead w n) (loc 0).blk (loc 0).off (g xs).toArray) os = w' at hold hnew hsz hsm
  refine ⟨_, rfl, hsm, ?_⟩
  have hS : ∀ b, S b → w'.heap[b]? = w.heap[b]? := fun b hb' => hold b (hc.bS b hb') fun e => hc.nS 0 (by rw [hr0]; exact hnil) (e ▸ hb')
  have hown : ∀ (ys : List t.den) (sl : List FV) k, owns (loc k) (Fr.reg ⟨sl, [(0, .arr t ys)]⟩ k) → k = 0 := by
    intro ys sl k hk
    by_cases h0 : k = 0
    · exact h0
    · rw [hrk ys sl k h0] at hk; exact hk.elim
  refine ⟨loc, S, ⟨⟨fun k => ?_, fun k k' hk hk' _ => by rw [hown _ _ _ hk, hown _ _ _ hk'], fun k hk => ?_, fun b hb' => Nat.lt_of_lt_of_le (hc.bS b hb') hsz⟩,
    ⟨hsz, fun b hb' hn => ?_, fun _ h => h, fun _ h => .inl h, fun k hk => ?_, fun b hb' ho => ?_, hc.bS, fun k hk => ?_⟩⟩, ⟨fun k v hv => ?_, fun k o v hv => ?_, fun k i o v hv => ?_, fun k v hv => ?_, fun b hb' => ⟨hb', hS b hb'⟩⟩, ?_⟩
  · by_cases h0 : k = 0
    · subst h0
      rw [hr0]
      refine .inr ⟨hnil, _, e, hnew, by rw [hl]; exact q1, by simpa [Sort.putCells] using q2, fun i x hi => ⟨[enc x], (he _ _ _ _).2 rfl, fun j u hu => ?_⟩⟩
      have hj : j = 0 := by
        have := (List.getElem?_eq_some_iff.1 hu).1
        simpa using this
      subst hj
      simp at hu; subst hu
      have hi' : i < (g xs).length := (List.getElem?_eq_some_iff.1 hi).1
      have hcs : (loc 0).off + i < c.size := by rw [hs] at q2; rw [hl] at hi'; omega
      have hgi : (g xs)[i] = x := by
        have := List.getElem?_eq_getElem hi'
        rw [hi] at this; simpa using this.symm
      simp [Sort.putCells, hs, hcs, hi', hgi]
    · rw [hrk _ _ k h0]; trivial
  · have h0 := hown _ _ _ hk
    subst h0
    exact hc.nS 0 (by rw [hr0]; exact hnil)
  · refine hold b hb' fun e => hn ⟨0, by rw [hr0]; exact hnil, e.symm⟩
  · have h0 := hown _ _ _ hk
    subst h0
    exact .inl ⟨0, by rw [hr0]; exact hnil, rfl⟩
  · obtain ⟨k, hk, rfl⟩ := ho
    exact hc.nS k hk hb'
  · by_cases h0 : k = 0
    · subst h0; rw [hr0] at hk; cases hk
    · rw [hrk _ _ k h0] at hk; cases hk
  · by_cases h0 : k = 0
    · subst h0
      simp only [view, slRel, hr0] at hv ⊢
      rw [hl]; exact hv
    · simp only [view, slRel, hrk _ _ k h0] at hv
  · by_cases h0 : k = 0
    · subst h0
      simp only [view, ptRel, hr0]
    · simp only [view, ptRel, hrk _ _ k h0] at hv
  · by_cases h0 : k = 0
    · subst h0
      simp only [view, elRel, hr0] at hv ⊢
      rw [hl]; exact hv
    · simp only [view, elRel, hrk _ _ k h0] at hv
  · by_cases h0 : k = 0
    · subst h0
      simp only [view, mpRel, hr0]
    · simp only [view, mpRel, hrk _ _ k h0] at hv
  · exact ⟨[], rfl, rfl⟩

/-- The sorted list of strings. -/
def sortS (l : List Bytes) : List Bytes := l.mergeSort fun x y => decide (x ≤ y)
def sortIm (l : List Int) : List Int := l.mergeSort fun x y => decide (x ≤ y)

theorem sortS_sound {P : Program} {ρ : Shelf.Ren} (Ly : Proofs.Lays.n190 P ρ) {G : (Nat → Prop) → Array Obj → Prop} :
    Sound P G (ρ.f 190) (genS [false] true ⟨[.slc 0], [(0, .arr .str [])]⟩ [.slice .str] (fun x => decide (0 < List.length x.1) && decide (List.length x.1 ≤ 1000000)) (fun x => ⟨[], [(0, .arr .str (sortS x.1))]⟩)) :=
  inplace_sound (t := .str) (enc := Proofs.encStr) rfl (fun S h x cs => Iff.rfl) (ok := fun xs => decide (0 < List.length xs) && decide (List.length xs ≤ 1000000)) (g := sortS) (fun xs => List.length_mergeSort xs)
    (fun xs h e => by subst e; simp at h)
    (fun xs h blk off cap w hH hb => Proofs.Any.slices_Sort_string Ly blk off cap xs w hH hb (by simp at h; omega))

theorem sortI_sound {P : Program} {ρ : Shelf.Ren} (Ly : Proofs.Lays.n189 P ρ) {G : (Nat → Prop) → Array Obj → Prop} :
    Sound P G (ρ.f 189) (genS [false] true ⟨[.slc 0], [(0, .arr (.int .i64) [])]⟩ [.slice (.int .i64)] (fun x => decide (0 < List.length x.1) && decide (List.length x.1 ≤ 1000000)) (fun x => ⟨[], [(0, .arr (.int .i64) (sortIm x.1))]⟩)) :=
  inplace_sound (t := .int .i64) (enc := Value.int .i64) rfl (fun S h x cs => Iff.rfl) (ok := fun xs => decide (0 < List.length xs) && decide (List.length xs ≤ 1000000)) (g := sortIm) (fun xs => List.length_mergeSort xs)
    (fun xs h e => by subst e; simp at h)
    (fun xs h blk off cap w hH hb => Proofs.Any.slices_Sort_int Ly blk off cap xs w hH hb (by simp at h; omega))

/-- A contract in two parts. -/
theorem split_sound {P : Program} {G : (Nat → Prop) → Array Obj → Prop} {f : FuncId} {md : List Bool} {ret : Bool} {pat : Fr} {ts : List Tc} {ok ok1 ok2 : Tup ts → Bool} {out out1 out2 : Tup ts → Fr}
    (h1 : Sound P G f (genS md ret pat ts ok1 out1)) (h2 : Sound P G f (genS md ret pat ts ok2 out2))
    (hs : ∀ x, ok x = true → (ok1 x = true ∧ out1 x = out x) ∨ (ok2 x = true ∧ out2 x = out x)) : Sound P G f (genS md ret pat ts ok out) := by
  intro pk o hok hout
  simp only [genS] at hok hout
  cases hm : matchF pat pk with
  | none => rw [hm] at hok; cases hok
  | some hsl =>
    rw [hm] at hok hout
    simp only at hok hout
    cases hd : dats ts hsl with
    | none => rw [hd] at hok; cases hok
    | some x =>
      rw [hd] at hok hout
      simp only [Option.some.injEq] at hok hout
      rcases hs x hok with ⟨k1, k2⟩ | ⟨k1, k2⟩
      · exact h1 pk o (by simp only [genS, hm, hd]; exact k1) (by simp only [genS, hm, hd]; rw [k2, hout])
      · exact h2 pk o (by simp only [genS, hm, hd]; exact k1) (by simp only [genS, hm, hd]; rw [k2, hout])
end Go.Ev

set_option linter.unusedSimpArgs false
set_option linter.unusedVariables false
namespace Go.Ev
open Go

/-! ### functions that are evaluated whole, at inputs that are known -/
def Le (o o' : Option Fr) : Prop := ∀ r, o = some r → o' = some r

theorem le_bind {α : Type} {o : Option α} {f g : α → Option Fr} (h : ∀ x, Le (f x) (g x)) : Le (o.bind f) (o.bind g) := by
  intro r hr
  cases o with
  | none => cases hr
  | some x => exact h x r hr

theorem runOpsF_mono {E : Env} {C : Cfg} {ops l : List Oper} {fr : Fr} {K K' : Fr → Option Fr} (h : ∀ fr, Le (K fr) (K' fr)) : Le (runOpsF E C ops l fr K) (runOpsF E C ops l fr K') := by
  obtain ⟨o, ho⟩ := runOps_bind (E := E) (C := C) (ops := ops) (ρ := Fr) l fr
  rw [runOpsF_eq, runOpsF_eq, ho, ho]
  exact le_bind h

theorem runOpsTF_mono {E : Env} {C : Cfg} {ops : List Oper} {fr : Fr} {K K' : Fr → Option Fr} (h : ∀ fr, Le (K fr) (K' fr)) : Le (runOpsTF E C ops ops [] fr K) (runOpsTF E C ops ops [] fr K') := by
  obtain ⟨o, ho⟩ := runOpsT_bind (E := E) (C := C) (ops := ops) (ρ := Fr) ops [] fr
  rw [runOpsTF_eq _ _ _ _ (by simp), runOpsTF_eq _ _ _ _ (by simp), ho, ho]
  exact le_bind h

theorem both_mono {a b a' b' : Option Fr} (h1 : Le a a') (h2 : Le b b') : Le (both a b) (both a' b') := by
  intro r hr
  obtain ⟨g1, g2⟩ := both_some.1 hr
  exact both_some.2 ⟨h1 r g1, h2 r g2⟩

theorem allN_mono {n : Nat} {f g : Nat → Option Fr} (h : ∀ i, Le (f i) (g i)) : Le (allN n f) (allN n g) := by
  intro r hr
  obtain ⟨g1, g2⟩ := allN_some.1 hr
  exact allN_some.2 ⟨g1, fun i hi => h i r (g2 i hi)⟩

theorem cond_mono {q : Bool} {a b a' b' : Option Fr} (h1 : Le a a') (h2 : Le b b') : Le (cond q a b) (cond q a' b') := by cases q <;> assumption

theorem le_rfl {o : Option Fr} : Le o o := fun _ h => h

theorem nrmH_mono {C : Cfg} {pre b : Nat} {fr : Fr} {K K' : Fr → Option Fr} (h : ∀ fr, Le (K fr) (K' fr)) : Le (nrmH C pre b fr K) (nrmH C pre b fr K') := by
  rw [nrmH_eq, nrmH_eq]; exact le_bind h

theorem runS_mono {E : Env} {C : Cfg} {pre : Nat} {H H' : List It → Ex → Fr → Option Fr} (hH : ∀ k e fr, Le (H k e fr) (H' k e fr)) : ∀ (c : Code) (b : Nat) (k : List It) (fr : Fr) (K K' : Ex → Fr → Option Fr), (∀ e fr, Le (K e fr) (K' e fr)) →
    Le (runS E C pre H b c k fr K) (runS E C pre H' b c k fr K')
  | .skip, b, k, fr, K, K', h => h _ _
  | .region id ops draw, b, k, fr, K, K', h => cond_mono (runOpsTF_mono (h .normal)) (runOpsF_mono (h .normal))
  | .seq x y, b, k, fr, K, K', h => by
    refine runS_mono hH x b _ fr _ _ fun e fr' => ?_
    cases e with
    | normal => exact runS_mono hH y b k fr' K K' h
    | exit i => exact h _ _
    | ret => exact h _ _
  | .cond c x y, b, k, fr, K, K', h => by
    simp only [runS]
    split
    · split
      · split
        · exact cond_mono (runS_mono hH x b k _ K K' h) (runS_mono hH y b k _ K K' h)
        · exact both_mono (runS_mono hH x b k _ K K' h) (runS_mono hH y b k _ K K' h)
        · exact le_rfl
      · split
        · exact cond_mono (allN_mono fun i => runS_mono hH x b k _ K K' h) le_rfl
        · exact le_rfl
    · exact cond_mono (runS_mono hH x b k fr K K' h) (runS_mono hH y b k fr K K' h)
    · exact le_rfl
  | .block i x, b, k, fr, K, K', h => by
    refine runS_mono hH x i _ fr _ _ fun e fr' => ?_
    cases e with
    | normal => exact h _ _
    | exit j => exact cond_mono (h _ _) (h _ _)
    | ret => exact h _ _
  | .loop x, b, k, fr, K, K', h => nrmH_mono fun fr => hH _ _ _
  | .exit i, b, k, fr, K, K', h => h _ _
  | .ret, b, k, fr, K, K', h => h _ _
  | .rangeFunc g ps asg body, b, k, fr, K, K', h => by
    simp only [runS, Pr.exec_go]
    exact le_bind fun x => nrmH_mono fun fr => hH _ _ _
  | .scope _, b, k, fr, K, K', h => le_rfl
  | .label _, b, k, fr, K, K', h => le_rfl
  | .goto _, b, k, fr, K, K', h => le_rfl
  | .refuse _, b, k, fr, K, K', h => le_rfl

theorem contS_mono {E : Env} {C : Cfg} {pre : Nat} {F : Ex → Fr → Option Fr} {H H' : List It → Ex → Fr → Option Fr} (hH : ∀ k e fr, Le (H k e fr) (H' k e fr)) : ∀ (k : List It) (e : Ex) (fr : Fr),
    Le (contS E C pre F H k e fr) (contS E C pre F H' k e fr)
  | [], e, fr => le_rfl
  | .code b c :: k, .normal, fr => runS_mono hH c b k fr _ _ (contS_mono hH k)
  | .code b c :: k, .exit i, fr => contS_mono hH k _ _
  | .code b c :: k, .ret, fr => contS_mono hH k _ _
  | .blk i :: k, .normal, fr => contS_mono hH k _ _
  | .blk i :: k, .ret, fr => contS_mono hH k _ _
  | .blk i :: k, .exit j, fr => cond_mono (contS_mono hH k _ _) (contS_mono hH k _ _)
  | .lp b x :: k, .normal, fr => nrmH_mono fun fr => hH _ _ _
  | .lp b x :: k, .exit i, fr => contS_mono hH k _ _
  | .lp b x :: k, .ret, fr => contS_mono hH k _ _
  | .rf b ps asg body rem :: k, .normal, fr => nrmH_mono fun fr => hH _ _ _
  | .rf b ps asg body rem :: k, .exit i, fr => le_rfl
  | .rf b ps asg body rem :: k, .ret, fr => le_rfl
  | .rg b ps asg body rem :: k, e, fr => hH _ _ _
  | .rb b body :: k, .normal, fr => cond_mono (runS_mono hH body b k fr _ _ (contS_mono hH k)) le_rfl
  | .rb b body :: k, .exit i, fr => le_rfl
  | .rb b body :: k, .ret, fr => le_rfl
  | .re b sl ps asg body rem :: k, .normal, fr => nrmH_mono fun fr => hH _ _ _
  | .re b sl ps asg body rem :: k, .exit i, fr => le_rfl
  | .re b sl ps asg body rem :: k, .ret, fr => le_rfl

/-- A frame as a tree, made plain. -/
def frK (fr : Fr) {ρ : Type} (K : Fq → ρ) : ρ := fcF fr fun fr => mkTK (num0 0 fr.slots) .leaf fun t => K ⟨fr.slots.length, t, fr.regs⟩

theorem ascB_num0 : ∀ (l : List FV) (i : Nat), ascB i (num0 i l) = true
  | [], i => rfl
  | v :: l, i => by
    simp only [num0, ascB]
    rw [show Nat.ble i i = true from Nat.ble_eq_true_of_le (Nat.le_refl _)]
    exact ascB_num0 l (i + 1)

theorem frK_eq (fr : Fr) {ρ : Type} (K : Fq → ρ) : ∃ q : Fq, frK fr K = K q ∧ q.to = fr := by
  refine ⟨⟨fr.slots.length, mkT (num0 0 fr.slots) .leaf, fr.regs⟩, by unfold frK; rw [fcF_eq, mkTK_eq], ?_⟩
  rw [← mkF_to _ _ _ (ascB_num0 _ _)]
  unfold mkF
  rw [mkS_num0 _ 0 _ (Nat.le_refl _)]
  simp

/-- The run up to so many heads of loops. -/
noncomputable def FnI.evS (I : FnI) : Nat → List It → Ex → Fr → Option Fr
  | 0 => fun _ _ _ => none
  | n + 1 => fun k e fr => match e with
    | .normal => match k with
      | .code b c :: k => frK fr fun q => runSQ I.E I.C I.pre (I.evS n) b c k q (contSQ I.E I.C I.pre I.FQ (I.evS n) k)
      | .rg b ps asg body rem :: k => cond (noAux fr.regs) (match rem with
        | [] => frK fr fun q => contSQ I.E I.C I.pre I.FQ (I.evS n) k .normal q
        | v :: rem => fcF fr fun fr => frK ⟨putS fr.slots ps v, fr.regs⟩ fun q => runSQ I.E I.C I.pre (I.evS n) b asg (.rb b body :: .re b fr.slots ps asg body rem :: k) q (contSQ I.E I.C I.pre I.FQ (I.evS n) (.rb b body :: .re b fr.slots ps asg body rem :: k))) none
      | _ => none
    | _ => none

theorem FnI.evS_T (I : FnI) : ∀ (n : Nat) (k : List It) (e : Ex) (fr : Fr), Le (I.evS n k e fr) (Ev.T I.E I.C I.pre I.F k e fr)
  | 0, k, e, fr => fun r h => by cases h
  | n + 1, k, e, fr => fun r h => by
    have hF : ∀ e q, I.FQ e q = I.F e q.to := fun e q => finQ_eq _ _ _ _ e q
    have key : ∀ (b : Nat) (c : Code) (k : List It) (q : Fq), runSQ I.E I.C I.pre (I.evS n) b c k q (contSQ I.E I.C I.pre I.FQ (I.evS n) k) = some r → Ev.T I.E I.C I.pre I.F (.code b c :: k) .normal q.to = some r := by
      intro b c k q h
      rw [runSQ_eq c b k q _ _ (contSQ_eq hF k)] at h
      rw [T_code]
      exact runS_mono (I.evS_T n) c b k q.to _ _ (contS_mono (I.evS_T n) k) r h
    simp only [FnI.evS] at h
    split at h
    · split at h
      · rename_i b c k
        obtain ⟨q, h1, h2⟩ := frK_eq fr (fun q => runSQ I.E I.C I.pre (I.evS n) b c k q (contSQ I.E I.C I.pre I.FQ (I.evS n) k))
        rw [h1] at h
        rw [← h2]; exact key b c k q h
      · rename_i b ps asg body rem k
        rw [T_step]
        cases hna : noAux fr.regs with
        | false => rw [hna] at h; cases h
        | true =>
        rw [hna, cond_true] at h
        cases rem with
        | nil =>
          simp only [stepF, hna, cond_true]
          simp only at h
          obtain ⟨q, h1, h2⟩ := frK_eq fr (fun q => contSQ I.E I.C I.pre I.FQ (I.evS n) k .normal q)
          rw [h1, contSQ_eq hF, h2] at h
          rw [← contS_T]
          exact contS_mono (I.evS_T n) k _ _ r h
        | cons v rem =>
          simp only [stepF, hna, cond_true]
          simp only [fcF_eq] at h
          obtain ⟨q, h1, h2⟩ := frK_eq ⟨putS fr.slots ps v, fr.regs⟩ (fun q => runSQ I.E I.C I.pre (I.evS n) b asg (.rb b body :: .re b fr.slots ps asg body rem :: k) q (contSQ I.E I.C I.pre I.FQ (I.evS n) (.rb b body :: .re b fr.slots ps asg body rem :: k)))
          rw [h1] at h
          rw [← h2]; exact key _ _ _ q h
      · cases h
    · cases h

noncomputable def FnI.evRun (I : FnI) (n : Nat) (pk : Fr) : Option Fr :=
  cond (pk.regs.all fun p => Nat.blt p.1 I.pre && !p.2.aux) (I.evS n [.code 0 I.code] .normal ⟨pk.slots ++ List.replicate (I.fn.ntmps - pk.slots.length) .undef, pk.regs⟩) none

theorem FnI.evRun_run (I : FnI) {n : Nat} {pk out : Fr} (h : I.evRun n pk = some out) : I.run pk = some out := by
  unfold FnI.evRun at h
  unfold FnI.run
  cases hall : pk.regs.all fun p => Nat.blt p.1 I.pre && !p.2.aux with
  | false => rw [hall] at h; cases h
  | true =>
    rw [hall] at h
    exact I.evS_T n _ _ _ out h

/-- The contract that is the evaluation. -/
noncomputable def evSpec (E : Env) (C : Cfg) (fn : Func) (code : Code) (ms : List RM) (md : List Bool) (ret : Bool) (n : Nat) : Spec :=
  ⟨md, ret, fun _ => true, fun pk => ((FnI.mk E C fn code ms pk.regs.length).evRun n pk).bind fun out => fcF out some⟩

theorem evSpec_sound {P : Program} {E : Env} (hE : EnvOk P E) (hm : P.follows .mixedOrders = true) {f : FuncId} {C : Cfg} {fn : Func} {code : Code} {ms : List RM} {md : List Bool} {ret : Bool} {n : Nat} (hf : P.funcs[f]? = some fn) (hb : fn.body = some code)
    (hn : (fn.name == "runtime.NumGoroutine") = false) : Sound P E.gl f (evSpec E C fn code ms md ret n) ∧ Enters P f := by
  refine ⟨fun pk out hok hout => ?_, enters_of hf hb hn⟩
  have hr : (FnI.mk E C fn code ms pk.regs.length).evRun n pk = some out := by
    simp only [evSpec] at hout
    cases h : (FnI.mk E C fn code ms pk.regs.length).evRun n pk with
    | none => rw [h] at hout; cases hout
    | some x => rw [h] at hout; simp only [Option.bind_some, fcF_eq] at hout; exact hout
  refine (FnI.mk E C fn code ms pk.regs.length).sound (s := ⟨md, ret, fun _ => true, fun p => (FnI.mk E C fn code ms pk.regs.length).evRun n p⟩) hE hm hf hb (fun p o _ h => FnI.evRun_run _ h) pk out rfl hr

theorem env_ev {P : Program} {E : Env} (hE : EnvOk P E) (hm : P.follows .mixedOrders = true) (f : FuncId) (C : Cfg) (ms : List RM) (md : List Bool) (ret : Bool) (n : Nat) {fn : Func} {code : Code} (hf : P.funcs[f]? = some fn) (hb : fn.body = some code)
    (hn : (fn.name == "runtime.NumGoroutine") = false) : EnvOk P (E.add f (evSpec E C fn code ms md ret n)) := env_add hE (evSpec_sound hE hm hf hb hn)

/-- A function without arguments, evaluated. -/
theorem ev_const {P : Program} {G : (Nat → Prop) → Array Obj → Prop} {f : FuncId} {s : Spec} (h : Sound P G f s) {ret : Bool} {out : Fr} (hok : s.ok ⟨[], []⟩ = true) (hout : s.fn ⟨[], []⟩ = some out) : Sound P G f (genS [] ret ⟨[], []⟩ [] (fun _ => true) (fun _ => out)) := by
  refine gen_of (P := P) (G := G) (f := f) (fun pk o => ∀ (vals : List Value) (w : World) (loc : Nat → Loc) (S : Nat → Prop), Core pk.reg loc S w.heap → G S w.heap →
    RelVs (view pk.reg loc S w.heap) pk.slots vals →
    Calls P f vals.toArray w fun e w' => ∃ u, e = .returned u ∧ Sm w w' ∧ ∃ loc' S', Ctx (entOf pk loc S w.heap) o.reg loc' S' w'.heap ∧
      (view pk.reg loc S w.heap).le (view o.reg loc' S' w'.heap) ∧ RelV (view o.reg loc' S' w'.heap) (resFV o.slots) u) ?_
  intro x _
  exact h _ _ hok hout

end Go.Ev

set_option linter.unusedSimpArgs false
set_option linter.unusedVariables false
namespace Go.Ev
open Go

/-! ### slices.Backward -/
def isOp (o : Oper) (d : Tmp) (op : Op) : Prop := o.dst = some d ∧ o.op = op ∧ o.guard = none

theorem step_val {P : Program} {n : Nat} {ops : Array Oper} {Q : Exit → Act → World → Prop} {o : Oper} {l : List Oper} {a : Act} {w : World} {u : Value} {d : Tmp} {op : Op} (ho : isOp o d op) (hd : ∀ c, op ≠ .defer c)
    (hr : (execOp a.eval o).run P w = .ok (.value u) w) (h : wpListIn Fence.wide n P ops Q l (a.put (some d) u) w) : wpListIn Fence.wide n P ops Q (o :: l) a w := by
  refine wpListIn_plain ho.2.2 fun K hK => ?_
  unfold Oper.wpIn
  refine ⟨fun _ _ => trivial, ?_⟩
  rw [Oper.semAt_plain Fence.wide a.eval o (by rw [ho.2.1]; exact hd), hr, Oper.uponIn_value, ho.1]
  exact hK _ _ h

theorem put_get {a : Act} {d i : Nat} {u : Value} (hd : d < a.tmps.size) : (a.put (some d) u).tmps[i]? = if i = d then some u else a.tmps[i]? := by
  simp only [Act.put, Array.getElem?_setIfInBounds]
  by_cases h : i = d
  · subst h; simp [hd]
  · rw [if_neg (Ne.symm h), if_neg h]

theorem put_size {a : Act} {d : Nat} {u : Value} : (a.put (some d) u).tmps.size = a.tmps.size := by simp [Act.put]

theorem eval_get {a : Act} {i : Nat} {u : Value} (h : a.tmps[i]? = some u) : a.eval (.tmp i) = u := by
  simp [Act.eval, h]

theorem ex_move {o : Oper} {d : Tmp} {x : Operand} (ho : isOp o d (.move x)) {ρ : Operand → Value} {P : Program} {w : World} : (execOp ρ o).run P w = .ok (.value (ρ x)) w := by
  obtain ⟨_, _, _, _, _, _⟩ := o; obtain ⟨h1, h2, h3⟩ := ho; simp only at h2; subst h2; rfl
theorem ex_assign {o : Oper} {d : Tmp} {x : Operand} (ho : isOp o d (.assign x)) {ρ : Operand → Value} {P : Program} {w : World} : (execOp ρ o).run P w = .ok (.value (ρ x)) w := by
  obtain ⟨_, _, _, _, _, _⟩ := o; obtain ⟨h1, h2, h3⟩ := ho; simp only at h2; subst h2; rfl
theorem ex_load {o : Oper} {d : Tmp} {t : TypeId} {x : Operand} (ho : isOp o d (.load t x)) {ρ : Operand → Value} {P : Program} {w : World} {v : Value} (h : (Instr.loadAt t (ρ x)).run P w = .ok v w) : (execOp ρ o).run P w = .ok (.value v) w := by
  obtain ⟨_, _, _, _, _, _⟩ := o; obtain ⟨h1, h2, h3⟩ := ho; simp only at h2; subst h2; exact val_run h
theorem ex_index {o : Oper} {d : Tmp} {t : TypeId} {x i : Operand} (ho : isOp o d (.indexAddr t x i)) {ρ : Operand → Value} {P : Program} {w : World} {v : Value} (h : (Instr.indexAt t (ρ x) (ρ i)).run P w = .ok v w) : (execOp ρ o).run P w = .ok (.value v) w := by
  obtain ⟨_, _, _, _, _, _⟩ := o; obtain ⟨h1, h2, h3⟩ := ho; simp only at h2; subst h2; exact val_run h
theorem ex_bin {o : Oper} {d : Tmp} {op : BinOp} {xt yt : TypeId} {x y : Operand} (ho : isOp o d (.binOp op xt x y yt)) {ρ : Operand → Value} {P : Program} {w : World} {v : Value} (h : ((do eqGuard op xt x y (ρ x) (ρ y); binOp op xt (ρ x) (ρ y)) : Sem Value).run P w = .ok v w) : (execOp ρ o).run P w = .ok (.value v) w := by
  obtain ⟨_, _, _, _, _, _⟩ := o; obtain ⟨h1, h2, h3⟩ := ho; simp only at h2; subst h2; exact val_run h
theorem ex_not {o : Oper} {d : Tmp} {xt : TypeId} {x : Operand} (ho : isOp o d (.unOp .not xt x)) {ρ : Operand → Value} {P : Program} {w : World} {q : Bool} (h : ρ x = .bool q) : (execOp ρ o).run P w = .ok (.value (.bool !q)) w := by
  obtain ⟨_, _, _, _, _, _⟩ := o; obtain ⟨h1, h2, h3⟩ := ho; simp only at h2; subst h2
  refine val_run ?_
  rw [h]; rfl
theorem ex_len {o : Oper} {d : Tmp} {t : TypeId} {x : Operand} (ho : isOp o d (.call ⟨.builtin .len, #[x], #[t]⟩)) {ρ : Operand → Value} {P : Program} {w : World} {v : Value} (h : ∀ ty, (Builtin.len_ #[t] ty #[ρ x]).run P w = .ok v w) : (execOp ρ o).run P w = .ok (.value v) w := by
  obtain ⟨_, _, ty, _, _, _⟩ := o; obtain ⟨h1, h2, h3⟩ := ho; simp only at h2; subst h2
  exact val_run (s := Builtin.len_ #[t] ty (Array.map ρ #[x])) (by simpa using h ty)
theorem ex_call {o : Oper} {d : Tmp} {x : Operand} {cs : Array Operand} {ts : Array TypeId} (ho : isOp o d (.call ⟨.value x, cs, ts⟩)) {ρ : Operand → Value} {P : Program} {w : World} {l : Nat} {f : FuncId} {tmps : Array Value} {asg body : Code}
    (hx : ρ x = .func (.yield l) #[] #[]) (h : (Instr.yield l (cs.map ρ)).run P w = .ok (.round l f tmps asg body) w) : (execOp ρ o).run P w = .ok (.round l f tmps asg body) w := by
  obtain ⟨_, _, ty, _, _, _⟩ := o; obtain ⟨h1, h2, h3⟩ := ho; simp only at h2; subst h2
  simp [execOp, resolve, invoke, hx, h, go_sem]

/-- The code of slices.Backward's closure. -/
def BackC (code : Code) (sl el : TypeId) : Prop :=
  ∃ (i0 i1 i2 i3 b0 b1 : Nat) (it bt : TypeId) (l0 l1 l2 l3 : Array Oper) (a1 a2 a3 a4 p1 p2 c1 c2 c3 c4 c5 c6 c7 c8 d1 d2 d3 : Oper) (ty : Array TypeId),
    code = .seq (.region i0 l0 false) (.block b0 (.loop (.seq (.seq (.region i1 l1 false) (.cond (.tmp 8) .skip (.exit b0))) (.seq (.block b1 (.seq (.region i3 l3 false) (.cond (.tmp 18) .ret .skip))) (.region i2 l2 false))))) ∧
    l0.toList = [a1, a2, a3, a4] ∧ l1.toList = [p1, p2] ∧ l2.toList = [d1, d2, d3] ∧ l3.toList = [c1, c2, c3, c4, c5, c6, c7, c8] ∧
    isOp a1 4 (.load sl (.tmp 1)) ∧ isOp a2 5 (.call ⟨.builtin .len, #[.tmp 4], #[sl]⟩) ∧ isOp a3 6 (.binOp .sub it (.tmp 5) (.const (.int .i64 1)) it) ∧ isOp a4 3 (.assign (.tmp 6)) ∧
    isOp p1 7 (.move (.tmp 3)) ∧ isOp p2 8 (.binOp .geq it (.tmp 7) (.const (.int .i64 0)) it) ∧
    isOp c1 11 (.move (.tmp 0)) ∧ isOp c2 12 (.move (.tmp 3)) ∧ isOp c3 13 (.load sl (.tmp 1)) ∧ isOp c4 14 (.move (.tmp 3)) ∧ isOp c5 15 (.indexAddr sl (.tmp 13) (.tmp 14)) ∧ isOp c6 16 (.load el (.tmp 15)) ∧
    isOp c7 17 (.call ⟨.value (.tmp 11), #[.tmp 12, .tmp 16], ty⟩) ∧ isOp c8 18 (.unOp .not bt (.tmp 17)) ∧
    isOp d1 9 (.move (.tmp 3)) ∧ isOp d2 10 (.binOp .sub it (.tmp 9) (.const (.int .i64 1)) it) ∧ isOp d3 3 (.assign (.tmp 10))

/-- Nothing is anybody's. -/
theorem core_none {S : Nat → Prop} {h : Array Obj} (hS : ∀ b, S b → b < h.size) : Core (Fr.reg ⟨[], []⟩) (fun _ => ⟨0, 0, 0, true, none⟩) S h :=
  ⟨fun k => trivial, fun k k' h => h.elim, fun k h => h.elim, hS⟩

abbrev vw0 (S : Nat → Prop) (h : Array Obj) : Vw := view (Fr.reg ⟨[], []⟩) (fun _ => ⟨0, 0, 0, true, none⟩) S h

theorem yl_load {P : Program} {E : Env} (hE : EnvOk P E) {S : Nat → Prop} {w : World} (hS : ∀ b, S b → b < w.heap.size) {t : TypeId} {ti : TI} (ht : E.tt t = some ti) {tc : Tc} (hc : ti.tc = some tc) {x : tc.den} {u : Value}
    (hr : RelV (vw0 S w.heap) (.fp tc x) u) : ∃ v, (Instr.loadAt t u).run P w = .ok v w ∧ RelVal S w.heap tc x v := by
  have hgo : (loadV E t (.fp tc x)).go ⟨[], []⟩ = some (.dat tc x, ⟨[], []⟩) := by
    simp [loadV, popt, ht, hc, Pr.go]
  obtain ⟨_, v, h1, h2⟩ := load_ok hE (fr := ⟨[], []⟩) hgo (core_none hS) hr
  exact ⟨v, h1, h2⟩

theorem yl_len {P : Program} {E : Env} (hE : EnvOk P E) {S : Nat → Prop} {w : World} (hS : ∀ b, S b → b < w.heap.size) {t e : TypeId} {ti te : TI} (ht : E.tt t = some ti) (hl : ti.elem = some e) (he : E.tt e = some te) {tc : Tc} (hc : te.tc = some tc) {xs : List tc.den} {u : Value}
    (hr : RelVal S w.heap (.slice tc) xs u) (ty : TypeId) : (Builtin.len_ #[t] ty #[u]).run P w = .ok (.int .i64 xs.length) w := by
  have hgo : (lenV E t (.dat (.slice tc) xs)).go ⟨[], []⟩ = some (dI .i64 xs.length, ⟨[], []⟩) := by
    simp [lenV, lenS, elemTc, popt, ht, hl, he, hc, Pr.go]
  obtain ⟨_, v, h1, h2⟩ := len_ok (ty := ty) hE (fr := ⟨[], []⟩) hgo (core_none hS) hr
  cases h2
  exact h1

theorem yl_index {P : Program} {E : Env} (hE : EnvOk P E) {S : Nat → Prop} {w : World} (hS : ∀ b, S b → b < w.heap.size) {t e : TypeId} {ti te : TI} (ht : E.tt t = some ti) (hl : ti.elem = some e) (he : E.tt e = some te) {tc : Tc} (hc : te.tc = some tc) {xs : List tc.den} {u : Value}
    (hr : RelVal S w.heap (.slice tc) xs u) {m : Nat} {x : tc.den} (hx : xs[m]? = some x) : ∃ v, (Instr.indexAt t u (.int .i64 m)).run P w = .ok v w ∧ RelV (vw0 S w.heap) (.fp tc x) v := by
  have hm : m < List.length xs := (List.getElem?_eq_some_iff.1 hx).1
  have hgo : (indexAddrV E t (.dat (.slice tc) xs) (dI .i64 m)).go ⟨[], []⟩ = some (.fp tc x, ⟨[], []⟩) := by
    have hg : xs[m] = x := (List.getElem?_eq_some_iff.1 hx).2
    simp [indexAddrV, elemTc, popt, ht, hl, he, hc, Pr.go, asI, Pr.bind, guard, dI, hm, hg]
  obtain ⟨_, v, h1, h2⟩ := indexAddr_ok hE (fr := ⟨[], []⟩) (ui := .int .i64 m) hgo (core_none hS) hr rfl
  exact ⟨v, h1, h2⟩

theorem put_at {a : Act} {d i : Nat} {u : Value} : (a.put (some d) u).tmps[i]? = if i = d ∧ d < a.tmps.size then some u else a.tmps[i]? := by
  by_cases hd : d < a.tmps.size
  · rw [put_get hd]
    by_cases h : i = d <;> simp [h, hd]
  · rw [if_neg (fun h => hd h.2)]
    simp only [Act.put]
    rw [Array.setIfInBounds, dif_neg hd]

theorem put_defers {a : Act} {d : Nat} {u : Value} : (a.put (some d) u).defers = a.defers := rfl

theorem yl_sub {P : Program} {w : World} {it : TypeId} {xo yo : Operand} {x y : Int} : ((do eqGuard .sub it xo yo (.int .i64 x) (.int .i64 y); binOp .sub it (.int .i64 x) (.int .i64 y)) : Sem Value).run P w = .ok (.int .i64 (IntKind.wrap .i64 (x - y))) w := by
  simp [eqGuard, binOp, go_sem]

theorem yl_geq {P : Program} {w : World} {it : TypeId} {xo yo : Operand} {x y : Int} : ((do eqGuard .geq it xo yo (.int .i64 x) (.int .i64 y); binOp .geq it (.int .i64 x) (.int .i64 y)) : Sem Value).run P w = .ok (.bool (decide (x ≥ y))) w := by
  simp [eqGuard, binOp, go_sem]

theorem start_at (x y : Value) : (#[x, y] ++ Array.replicate (19 - (#[x, y] : Array Value).size) undef)[0]? = some x ∧ (#[x, y] ++ Array.replicate (19 - (#[x, y] : Array Value).size) undef)[1]? = some y ∧
    (#[x, y] ++ Array.replicate (19 - (#[x, y] : Array Value).size) undef).size = 19 := by
  refine ⟨?_, ?_, ?_⟩
  · rw [Array.getElem?_append_left (by simp)]; rfl
  · rw [Array.getElem?_append_left (by simp)]; rfl
  · simp

theorem step_put {P : Program} {n : Nat} {ops : Array Oper} {Q : Exit → Act → World → Prop} {o : Oper} {l : List Oper} {a : Act} {w : World} {u : Value} {d : Tmp} {op : Op} (ho : isOp o d op) (hd : ∀ c, op ≠ .defer c) (hs : a.tmps.size = 19) (hl : Nat.blt d 19 = true)
    (hr : (execOp a.eval o).run P w = .ok (.value u) w) (h : ∀ a' : Act, a'.tmps.size = 19 → a'.defers = a.defers → a'.tmps[d]? = some u → (∀ i, i ≠ d → a'.tmps[i]? = a.tmps[i]?) → wpListIn Fence.wide n P ops Q l a' w) :
    wpListIn Fence.wide n P ops Q (o :: l) a w := by
  have hlt : d < a.tmps.size := by rw [hs]; exact Nat.le_of_ble_eq_true hl
  refine step_val ho hd hr (h _ (put_size.trans hs) rfl ?_ fun i hi => ?_)
  · rw [put_get hlt, if_pos rfl]
  · rw [put_get hlt, if_neg hi]

set_option maxHeartbeats 1000000 in
/-- slices.Backward's closure keeps its word. -/
theorem back_ok {P : Program} {E : Env} (hE : EnvOk P E) {f : FuncId} {fn : Func} {code : Code} (hf : P.funcs[f]? = some fn) (hb : fn.body = some code) (hn : fn.ntmps = 19) (hres : fn.results = #[]) {sl el : TypeId} (hC : BackC code sl el) {ts te : TI} {t : Tc}
    (hts : E.tt sl = some ts) (hel : ts.elem = some el) (htc : ts.tc = some (.slice t)) (hte : E.tt el = some te) (hec : te.tc = some t) : BackOK P f t := by
  obtain ⟨i0, i1, i2, i3, b0, b1, it, bt, l0, l1, l2, l3, a1, a2, a3, a4, p1, p2, c1, c2, c3, c4, c5, c6, c7, c8, d1, d2, d3, ty, rfl, e0, e1, e2, e3, A1, A2, A3, A4, P1, P2, C1, C2, C3, C4, C5, C6, C7, C8, D1, D2, D3⟩ := hC
  intro W b e u S xs hbk hru hS hlen l J hJ hY h0 n
  have hkeep : ∀ m W1, J m W1 → ∀ s, (S s ∨ s = b) → W1.heap[s]? = W.heap[s]? := by
    rintro m W1 h s (hs | rfl)
    · exact (hJ m W1 h).2 s hs
    · exact (hJ m W1 h).1
  have hlt : ∀ s, (S s ∨ s = b) → s < W.heap.size := by
    rintro s (hs | rfl)
    · exact hS s hs
    · exact (Array.getElem?_eq_some_iff.1 hbk).1
  have hS1 : ∀ m W1, J m W1 → ∀ s, (S s ∨ s = b) → s < W1.heap.size := by
    intro m W1 h s hs
    have h1 := hkeep m W1 h s hs
    rw [Array.getElem?_eq_getElem (hlt s hs)] at h1
    exact (Array.getElem?_eq_some_iff.1 h1).1
  have hrd : ∀ m W1, J m W1 → RelD (fun s => S s ∨ s = b) W1.heap (.slice t) xs [u] := fun m W1 h => RelD_mono (fun s hs => ⟨.inl hs, hkeep m W1 h s (.inl hs)⟩) _ _ _ hru
  have hbox : ∀ m W1, J m W1 → RelV (vw0 (fun s => S s ∨ s = b) W1.heap) (.fp (.slice t) xs) (.pointer (some ⟨b, 0, none⟩)) := by
    intro m W1 h
    refine ⟨⟨b, 0, none⟩, [u], rfl, rfl, .inr rfl, hrd m W1 h, fun j v hj => ?_⟩
    have hb1 : W1.heap[b]? = some (.cells #[u] e (0, 0)) := (hkeep m W1 h b (.inr rfl)).trans hbk
    show cellAt W1.heap b (0 + j) = some v
    rw [cell_blk hb1, Nat.zero_add]
    exact (List.getElem?_toArray (xs := [u]) (i := j)).trans hj
  have hxl : ((List.length xs : Nat) : Int) ≤ 1099511627776 := by have := hlen; omega
  refine callsIn_of_wp hf hb trivial ?_
  -- ahead of the loop
  refine wpIn_seq (wpIn_region_list ?_)
  rw [e0]
  obtain ⟨sv, hl1, hr1⟩ := yl_load (P := P) hE (hS1 _ _ h0) hts htc (hbox _ _ h0)
  rw [hn]
  generalize hA : (⟨#[.func (.yield l) #[] #[], .pointer (some ⟨b, 0, none⟩)] ++ Array.replicate (19 - (#[Value.func (.yield l) #[] #[], .pointer (some ⟨b, 0, none⟩)] : Array Value).size) undef, []⟩ : Act) = A
  have hst := start_at (.func (.yield l) #[] #[]) (.pointer (some ⟨b, 0, none⟩))
  have g0 : A.tmps[0]? = some (.func (.yield l) #[] #[]) := by rw [← hA]; exact hst.1
  have g1 : A.tmps[1]? = some (.pointer (some ⟨b, 0, none⟩)) := by rw [← hA]; exact hst.2.1
  have gs : A.tmps.size = 19 := by rw [← hA]; exact hst.2.2
  have gd : A.defers = [] := by rw [← hA]
  clear hA
  refine step_put A1 (fun _ => by simp) gs rfl (ex_load A1 (v := sv) (by rw [eval_get g1]; exact hl1)) ?_
  intro B1 s1 f1 q1 k1
  refine step_put A2 (fun _ => by simp) s1 rfl (ex_len A2 (v := .int .i64 xs.length) fun ty => by rw [eval_get q1]; exact yl_len hE (hS1 _ _ h0) hts hel hte hec hr1 ty) ?_
  intro B2 s2 f2 q2 k2
  refine step_put A3 (fun _ => by simp) s2 rfl (ex_bin A3 (by rw [eval_get q2]; exact yl_sub)) ?_
  intro B3 s3 f3 q3 k3
  refine step_put A4 (fun _ => by simp) s3 rfl (ex_assign A4) ?_
  intro B4 s4 f4 q4 k4
  rw [eval_get q3] at q4
  refine wpListIn_nil ?_
  simp only [Exit.then]
  have hwr : IntKind.wrap .i64 ((List.length xs : Int) - 1) = (List.length xs : Int) - 1 := wrap_in (by omega) (by omega)
  rw [hwr] at q4
  refine wpIn_block (wpIn_loop_ghost (fun m a w => J m w ∧ m ≤ List.length xs ∧ a.defers = [] ∧ a.tmps.size = 19 ∧ a.tmps[0]? = some (.func (.yield l) #[] #[]) ∧ a.tmps[1]? = some (.pointer (some ⟨b, 0, none⟩)) ∧ a.tmps[3]? = some (.int .i64 ((m : Int) - 1))) (List.length xs)
    ⟨h0, Nat.le_refl _, by rw [f4, f3, f2, f1, gd], s4, (((k4 0 (by decide)).trans (k3 0 (by decide))).trans (k2 0 (by decide))).trans ((k1 0 (by decide)).trans g0), (((k4 1 (by decide)).trans (k3 1 (by decide))).trans (k2 1 (by decide))).trans ((k1 1 (by decide)).trans g1), q4⟩ ?_)
  rintro m a w ⟨hj, hm, ad, as_, a0, a1', a3⟩
  have hmi : (m : Int) ≤ 1099511627776 := by omega
  -- the head
  refine wpIn_seq (wpIn_seq (wpIn_region_list ?_))
  rw [e1]
  refine step_put P1 (fun _ => by simp) as_ rfl (ex_move P1) ?_
  intro B1 s1 f1 q1 k1
  rw [eval_get a3] at q1
  refine step_put P2 (fun _ => by simp) s1 rfl (ex_bin P2 (by rw [eval_get q1]; exact yl_geq)) ?_
  intro B2 s2 f2 q2 k2
  refine wpListIn_nil ?_
  simp only [Exit.then]
  refine wpIn_cond (t := decide ((m : Int) - 1 ≥ 0)) (eval_get q2) ?_
  cases m with
  | zero =>
    rw [show decide (((0 : Nat) : Int) - 1 ≥ 0) = false from rfl]
    refine wpIn_exit ?_
    simp only [Exit.then, Exit.inBlock, if_true]
    refine bodyPost_end (results_none hres _ _ _) (by rw [f2, f1, ad]) ?_
    exact ⟨⟨_, rfl⟩, hj⟩
  | succ m =>
    rw [show decide (((m + 1 : Nat) : Int) - 1 ≥ 0) = true from by simp]
    refine wpIn_skip ?_
    simp only [Exit.then]
    have hx : xs[m]? = some xs[m] := List.getElem?_eq_getElem (by omega)
    have hr0 := hrd _ _ hj
    have b0 : B2.tmps[0]? = some (.func (.yield l) #[] #[]) := ((k2 0 (by decide)).trans (k1 0 (by decide))).trans a0
    have b1' : B2.tmps[1]? = some (.pointer (some ⟨b, 0, none⟩)) := ((k2 1 (by decide)).trans (k1 1 (by decide))).trans a1'
    have b3 : B2.tmps[3]? = some (.int .i64 (m : Int)) := by
      have := ((k2 3 (by decide)).trans (k1 3 (by decide))).trans a3
      rw [this]; simp
    obtain ⟨sv, hl1, hr1⟩ := yl_load (P := P) hE (hS1 _ _ hj) hts htc (hbox _ _ hj)
    obtain ⟨pv, hl2, hr2⟩ := yl_index (P := P) hE (hS1 _ _ hj) hts hel hte hec hr1 hx
    obtain ⟨ev, hl3, hr3⟩ := yl_load (P := P) hE (hS1 _ _ hj) hte hec hr2
    refine wpIn_seq (wpIn_block (wpIn_seq (wpIn_region_list ?_)))
    rw [e3]
    refine step_put C1 (fun _ => by simp) s2 rfl (ex_move C1) ?_
    intro D1' s3 f3 q3 k3
    rw [eval_get b0] at q3
    refine step_put C2 (fun _ => by simp) s3 rfl (ex_move C2) ?_
    intro D2' s4 f4 q4 k4
    rw [eval_get ((k3 3 (by decide)).trans b3)] at q4
    refine step_put C3 (fun _ => by simp) s4 rfl (ex_load C3 (v := sv) (by rw [eval_get ((k4 1 (by decide)).trans ((k3 1 (by decide)).trans b1'))]; exact hl1)) ?_
    intro D3' s5 f5 q5 k5
    refine step_put C4 (fun _ => by simp) s5 rfl (ex_move C4) ?_
    intro D4' s6 f6 q6 k6
    rw [eval_get ((k5 3 (by decide)).trans ((k4 3 (by decide)).trans ((k3 3 (by decide)).trans b3)))] at q6
    refine step_put C5 (fun _ => by simp) s6 rfl (ex_index C5 (v := pv) (by rw [eval_get ((k6 13 (by decide)).trans q5), eval_get q6]; exact hl2)) ?_
    intro D5' s7 f7 q7 k7
    refine step_put C6 (fun _ => by simp) s7 rfl (ex_load C6 (v := ev) (by rw [eval_get q7]; exact hl3)) ?_
    intro D6' s8 f8 q8 k8
    have c11 : D6'.tmps[11]? = some (.func (.yield l) #[] #[]) := (k8 11 (by decide)).trans ((k7 11 (by decide)).trans ((k6 11 (by decide)).trans ((k5 11 (by decide)).trans ((k4 11 (by decide)).trans q3))))
    have c12 : D6'.tmps[12]? = some (.int .i64 (m : Int)) := (k8 12 (by decide)).trans ((k7 12 (by decide)).trans ((k6 12 (by decide)).trans ((k5 12 (by decide)).trans q4)))
    have c16 : D6'.tmps[16]? = some ev := q8
    obtain ⟨fy, ty', asg, bd, hy, hR⟩ := hY m w ev xs[m] hx hr3 hj (n - 1)
    refine wpListIn_plain C7.2.2 fun K hK => ?_
    unfold Oper.wpIn
    refine ⟨fun _ _ => trivial, ?_⟩
    rw [Oper.semAt_plain Fence.wide D6'.eval c7 (by rw [C7.2.1]; intro c hc; cases hc), ex_call C7 (eval_get c11) (by simpa [eval_get c12, eval_get c16] using hy), Oper.uponIn_round]
    refine ⟨fun hh => by simp [Fence.wide] at hh, hR.mono ?_⟩
    rintro e' w' ⟨rfl, hj'⟩
    simp only [C7.1]
    refine hK _ _ ?_
    have s9 : (D6'.put (some 17) (.bool true)).tmps.size = 19 := put_size.trans s8
    have k9 : ∀ i, i ≠ 17 → (D6'.put (some 17) (.bool true)).tmps[i]? = D6'.tmps[i]? := fun i hi => by rw [put_get (by rw [s8]; decide), if_neg hi]
    have q9 : (D6'.put (some 17) (.bool true)).tmps[17]? = some (.bool true) := by rw [put_get (by rw [s8]; decide), if_pos rfl]
    have f9 : (D6'.put (some 17) (.bool true)).defers = D6'.defers := rfl
    generalize D6'.put (some 17) (.bool true) = D7' at s9 k9 q9 f9
    refine step_put C8 (fun _ => by simp) s9 rfl (ex_not C8 (eval_get q9)) ?_
    intro D8' s10 f10 q10 k10
    refine wpListIn_nil ?_
    simp only [Exit.then]
    refine wpIn_cond_false (eval_get q10) (wpIn_skip ?_)
    simp only [Exit.inBlock, Exit.then]
    -- on to the next
    have n0 : D8'.tmps[0]? = some (.func (.yield l) #[] #[]) := (k10 0 (by decide)).trans ((k9 0 (by decide)).trans ((k8 0 (by decide)).trans ((k7 0 (by decide)).trans ((k6 0 (by decide)).trans ((k5 0 (by decide)).trans ((k4 0 (by decide)).trans ((k3 0 (by decide)).trans b0)))))))
    have n1 : D8'.tmps[1]? = some (.pointer (some ⟨b, 0, none⟩)) := (k10 1 (by decide)).trans ((k9 1 (by decide)).trans ((k8 1 (by decide)).trans ((k7 1 (by decide)).trans ((k6 1 (by decide)).trans ((k5 1 (by decide)).trans ((k4 1 (by decide)).trans ((k3 1 (by decide)).trans b1')))))))
    have n3 : D8'.tmps[3]? = some (.int .i64 (m : Int)) := (k10 3 (by decide)).trans ((k9 3 (by decide)).trans ((k8 3 (by decide)).trans ((k7 3 (by decide)).trans ((k6 3 (by decide)).trans ((k5 3 (by decide)).trans ((k4 3 (by decide)).trans ((k3 3 (by decide)).trans b3)))))))
    refine wpIn_region_list ?_
    rw [e2]
    refine step_put D1 (fun _ => by simp) s10 rfl (ex_move D1) ?_
    intro G1 t1 u1 r1 o1
    rw [eval_get n3] at r1
    refine step_put D2 (fun _ => by simp) t1 rfl (ex_bin D2 (by rw [eval_get r1]; exact yl_sub)) ?_
    intro G2 t2 u2 r2 o2
    refine step_put D3 (fun _ => by simp) t2 rfl (ex_assign D3) ?_
    intro G3 t3 u3 r3 o3
    rw [eval_get r2] at r3
    refine wpListIn_nil ?_
    simp only [Exit.then]
    have hw2 : IntKind.wrap .i64 ((m : Int) - 1) = (m : Int) - 1 := wrap_in (by omega) (by omega)
    rw [hw2] at r3
    exact ⟨m, Nat.lt_succ_self m, hj', by omega, by rw [u3, u2, u1, f10, f9, f8, f7, f6, f5, f4, f3, f2, f1, ad], t3, (o3 0 (by decide)).trans ((o2 0 (by decide)).trans ((o1 0 (by decide)).trans n0)), (o3 1 (by decide)).trans ((o2 1 (by decide)).trans ((o1 1 (by decide)).trans n1)), r3⟩

end Go.Ev

set_option linter.unusedSimpArgs false
set_option linter.unusedVariables false
namespace Go.Ev
open Go

/-! ### slices.Sorted of maps.Keys -/
/-- The keys, sorted. -/
def keysOf (tv : Tc) (es : List (Bytes × tv.den)) : List Bytes := match es with
  | [] => []
  | [e] => [e.1]
  | l => sortS (l.map fun e => e.1)

theorem keysOf_eq (tv : Tc) (es : List (Bytes × tv.den)) : keysOf tv es = sortS (es.map fun e => e.1) := by
  unfold keysOf
  split
  · simp [sortS]
  · simp [sortS]
  · rfl

def keysOkB (gs : List Nat) (g : Nat) (tv : Tc) (es : List (Bytes × tv.den)) : Bool := mem g gs && Nat.ble (List.length es) 1000000 && List.all es fun e => Nat.ble (List.length e.1) 1000000

def keysS (gs : List Nat) : Spec := ⟨[false], true, fun _ => true, fun pk => match pk with
  | ⟨[.clos g [.ptr 0 0]], [(0, .box [.mp 1]), (1, .map .str tv es)]⟩ => cond (keysOkB gs g tv es) (some ⟨[.dat (.slice .str) (keysOf tv es)], [(0, .box [.mp 1]), (1, .map .str tv es)]⟩) none
  | _ => none⟩

/-- What the shelf says of slices.Sorted at the iterator of maps.Keys. -/
def SortedKeys (P : Program) (k : TypeId) (f g : Nat) : Prop :=
  ∀ (Bm b nn : Nat) (D0 : DataW Unit) (R : Value → Option (DataW Unit × List MemPlace)) (w : World), Bm < w.heap.size → w.cell? ⟨Bm, 0, none⟩ = some (.map (some b)) → w.ownsMap P k R b nn D0 → Go.Maps.size D0 ≤ maxLen → Go.Maps.size D0 * 16 ≤ 140737488355328 →
    CallsIn Fence.wide 5 P f #[.func (.func g) #[] #[.pointer (some ⟨Bm, 0, none⟩)]] w fun e w' => ∃ (v : Value) (ss : List (List UInt8)), e = .returned v ∧ ss.Perm (strKeys D0) ∧
      w'.ownsRow w.heap.size k 1 v ss.length ((ss.mergeSort (fun x y => decide (x ≤ y))).map Proofs.encStr) ∧ (v = .slice none 0 0 ↔ ss = []) ∧ RowKit.Below w.heap.size w w'

theorem relE_keys {S : Nat → Prop} {h : Array Obj} {tv : Tc} : ∀ (es : List (Bytes × tv.den)) (ents : List MapEntry), RelE S h .str tv es ents → ents.map (·.key) = es.map fun e => Proofs.encStr e.1
  | [], ents, hr => by cases hr; rfl
  | x :: l, ents, hr => by
    obtain ⟨e, es', rfl, h1, h2, h3⟩ := hr
    have h1' : [e.key] = [Value.string ⟨x.1.toArray⟩] := h1
    simp only [List.map_cons, List.cons.injEq]
    exact ⟨List.singleton_inj.1 h1', relE_keys l es' h3⟩

/-- How the values of the map read: as nothing. -/
def rNil : Value → Option (DataW Unit × List MemPlace) := fun _ => some (.nil, [])

theorem owns_keys {P : Program} {k : TypeId} (hk : P.underlying k = some .string) {w : World} {b clock : Nat} {ents : Array MapEntry} (hb : w.heap[b]? = some (.map ents clock)) (hst : Steady ents clock) {ks : List Bytes} (hks : ents.toList.map (·.key) = ks.map Proofs.encStr)
    (hn : ks.length ≤ 1000000) (hl : ∀ x ∈ ks, x.length ≤ 1000000) : ∃ D0 : DataW Unit, w.ownsMap P k rNil b ents.size D0 ∧ Go.Maps.size D0 = ks.length ∧ (strKeys D0).Perm ks := by
  have hkey : ∀ x : Bytes, x.length ≤ 1000000 → keyOf P k (Proofs.encStr x) = some (.string x) := by
    intro x hx
    have h1 : (⟨x.toArray⟩ : ByteArray).size ≤ maxLen := by
      show x.toArray.size ≤ 2 ^ 63 - 1
      simp; omega
    simp [keyOf, hk, mapKey, h1]
  have hrg : ∀ (l : List MapEntry) (ks : List Bytes), l.map (·.key) = ks.map Proofs.encStr → (∀ x ∈ ks, x.length ≤ 1000000) → l.map (WideElems.rg P k rNil) = ks.map fun x => (Lit.string x, DataW.nil) := by
    intro l
    induction l with
    | nil => intro ks h _; cases ks with | nil => rfl | cons _ _ => cases h
    | cons e l ih =>
      intro ks h hb
      cases ks with
      | nil => cases h
      | cons x ks =>
        simp only [List.map_cons, List.cons.injEq] at h ⊢
        refine ⟨?_, ih ks h.2 fun y hy => hb y (List.mem_cons_of_mem _ hy)⟩
        have := hkey x (hb x List.mem_cons_self)
        simp [WideElems.rg, WideElems.rd, rNil, h.1, this]
  have hlen : ents.size = ks.length := by
    have := congrArg List.length hks
    simpa using this
  have hmem : ∀ x ∈ ents.toList, ∃ y, y.length ≤ 1000000 ∧ x.key = Proofs.encStr y := by
    intro x hx
    have : x.key ∈ ks.map Proofs.encStr := hks ▸ List.mem_map_of_mem hx
    obtain ⟨y, hy, e⟩ := List.mem_map.1 this
    exact ⟨y, hl y hy, e.symm⟩
  refine ⟨_, ⟨ents, clock, hb, ⟨by rw [hlen]; show ks.length ≤ 2 ^ 63 - 1; omega, hst, fun x hx => ?_⟩, Nat.le_refl _, rfl⟩, ?_, ?_⟩
  · obtain ⟨y, hy, e⟩ := hmem x hx
    exact ⟨(.string y, .nil), by simp [WideElems.rd, rNil, e, hkey y hy]⟩
  · rw [hrg _ _ hks hl]
    show (List.foldr DataW.insert [] _).length = _
    rw [(WideShapes.sorted_perm _).length_eq, List.length_map]
  · rw [hrg _ _ hks hl]
    show (List.map (fun p => strOf p.1) (List.foldr DataW.insert [] _)).Perm ks
    refine ((WideShapes.sorted_perm _).map _).trans ?_
    rw [List.map_map]
    simp [Function.comp_def, strOf]

/-- A block of nobody's, that nobody writes any more. -/
theorem ctx_newS {en : Ent} {rg : Nat → Reg} {loc : Nat → Loc} {S : Nat → Prop} {h : Array Obj} (hc : Ctx en rg loc S h) {b0 : Nat} (h1 : en.h.size ≤ b0) (h2 : b0 < h.size) (h3 : ∀ k, owns (loc k) (rg k) → (loc k).blk ≠ b0) (h4 : ∀ k, (rg k).aux = false) :
    Ctx en rg loc (fun b => S b ∨ b = b0) h ∧ (view rg loc S h).le (view rg loc (fun b => S b ∨ b = b0) h) := by
  have hle : (view rg loc S h).le (view rg loc (fun b => S b ∨ b = b0) h) := view_leS fun b hb => .inl hb
  refine ⟨⟨⟨fun k => RelR_mono hle (loc k) (fun _ => rfl) (fun ha => by rw [h4 k] at ha; cases ha) (hc.core.reg k), hc.core.inj, fun k hk hs => ?_, fun b hb => ?_⟩,
    ⟨hc.keep.size, hc.keep.same, fun b hb => .inl (hc.keep.sub b hb), fun b hb => ?_, hc.keep.mine, hc.keep.apart, hc.keep.bnd, hc.keep.auxs⟩⟩, hle⟩
  · rcases hs with hs | hs
    · exact hc.core.nS k hk hs
    · exact h3 k hk hs
  · rcases hb with hb | rfl
    · exact hc.core.bS b hb
    · exact h2
  · rcases hb with hb | rfl
    · exact hc.keep.src b hb
    · exact .inr (.inr h1)

theorem sortedKeys_sound {P : Program} {G : (Nat → Prop) → Array Obj → Prop} {k : TypeId} (hk : P.underlying k = some .string) {f : FuncId} {gs : List Nat} (h : ∀ g, mem g gs = true → SortedKeys P k f g) : Sound P G f (keysS gs) := by
  intro pk out hok hout vals w loc S hcore hG hrel
  simp only [keysS] at hout
  split at hout
  case h_2 => cases hout
  rename_i g tv es
  cases hkb : keysOkB gs g tv es with
  | false => rw [hkb] at hout; cases hout
  | true =>
  rw [hkb] at hout
  simp only [cond_true, Option.some.injEq] at hout
  subst hout
  simp only [keysOkB, Bool.and_eq_true] at hkb
  obtain ⟨⟨hg, hn⟩, hl⟩ := hkb
  have hn' := Nat.le_of_ble_eq_true hn
  obtain ⟨u, us, rfl, hu, hus⟩ := hrel
  cases hus
  obtain ⟨vs, rfl, hvs⟩ := hu
  obtain ⟨pv, us', rfl, hpv, hus'⟩ := hvs
  cases hus'
  have hp : pv = .pointer (some ⟨(loc 0).blk, 0, none⟩) := hpv
  subst hp
  have h0 := hcore.reg 0
  obtain ⟨cc, et, hb0, hcs, _⟩ := h0
  obtain ⟨mv, us'', e0, hmv, hus''⟩ := hcs
  cases hus''
  have hm : mv = .map (some (loc 1).blk) := hmv
  subst hm
  obtain ⟨ents, clock, hb1, hre, hst⟩ := hcore.reg 1
  have hb0' : w.heap[(loc 0).blk]? = some (.cells cc et (0, 0)) := hb0
  have hcc : cc = #[.map (some (loc 1).blk)] := Array.toList_inj.1 (by simpa using e0)
  subst hcc
  have hks := relE_keys es _ hre
  obtain ⟨D0, hown, hsz, hperm⟩ := owns_keys hk hb1 hst (ks := es.map fun e => e.1) (by rw [hks]; simp [Function.comp_def]) (by simpa using hn') (by
    intro x hx
    obtain ⟨e, he, rfl⟩ := List.mem_map.1 hx
    exact Nat.le_of_ble_eq_true (List.all_eq_true.1 hl e he))
  rw [List.length_map] at hsz
  have hlt0 : (loc 0).blk < w.heap.size := (Array.getElem?_eq_some_iff.1 hb0').1
  have hcell : w.cell? ⟨(loc 0).blk, 0, none⟩ = some (.map (some (loc 1).blk)) := by
    rw [cell_at, cell_blk hb0']; rfl
  refine (callsIn_wide.1 (h g hg (loc 0).blk (loc 1).blk _ D0 rNil w hlt0 hcell hown (by rw [hsz]; show es.length ≤ 2 ^ 63 - 1; omega) (by rw [hsz]; omega))).mono ?_
  rintro e w' ⟨v, ss, rfl, hp2, hrow, hnil, hbel⟩
  have hsort : ss.mergeSort (fun x y => decide (x ≤ y)) = keysOf tv es := by
    rw [keysOf_eq]
    exact mergeSort_of_perm (hp2.trans hperm)
  rw [hsort] at hrow
  have hold : ∀ b, b < w.heap.size → w'.heap[b]? = w.heap[b]? := fun b hb => hbel.block b hb
  have hlss : ss.length = (keysOf tv es).length := by
    have := congrArg List.length hsort
    rw [List.length_mergeSort] at this; exact this
  have hcx : Ctx (entOf ⟨[.clos g [.ptr 0 0]], [(0, .box [.mp 1]), (1, .map .str tv es)]⟩ loc S w.heap) (Fr.reg ⟨[.clos g [.ptr 0 0]], [(0, .box [.mp 1]), (1, .map .str tv es)]⟩) loc S w.heap :=
    ⟨hcore, ⟨Nat.le_refl _, fun _ _ _ => rfl, fun _ h => h, fun _ h => .inl h, fun k hk => .inl ⟨k, hk, rfl⟩, fun b hb ⟨k, hk, e⟩ => hcore.nS k hk (e ▸ hb), hcore.bS, fun k hk => by
      match k with
      | 0 => cases hk
      | 1 => cases hk
      | k + 2 => cases hk⟩⟩
  obtain ⟨c1, c2⟩ := ctx_grow hcx hbel.size hold
  have hsm : Sm w w' := ⟨hbel.os, hbel.output⟩
  rcases hrow with ⟨hl1, ⟨rfl, hz⟩ | ⟨gb, cap, cur, rfl, hge, hgb, hnc, _, hcs, htk⟩⟩
  · have hk0 : keysOf tv es = [] := by
      rw [← List.length_eq_zero_iff, ← hlss, hz]
    refine ⟨_, rfl, hsm, loc, S, c1, c2, ?_⟩
    show RelVal S w'.heap (.slice .str) (keysOf tv es) (.slice none 0 0)
    rw [hk0]
    exact ⟨none, 0, rfl, Nat.le_refl _, fun i x hx => by simp at hx⟩
  · obtain ⟨d1, d2⟩ := ctx_newS c1 (b0 := gb) hge (Array.getElem?_eq_some_iff.1 hgb).1 (fun k hk e => by have := own_lt hcore hk; omega) (fun k => by
      match k with
      | 0 => rfl
      | 1 => rfl
      | k + 2 => rfl)
    refine ⟨_, rfl, hsm, loc, _, d1, Vw.le_trans c2 d2, ?_⟩
    rw [hlss]
    refine ⟨some ⟨gb, 0, none⟩, cap, rfl, by rw [← hlss]; exact hnc, fun i x hx => ⟨⟨gb, 0, none⟩, rfl, rfl, .inr rfl, [Proofs.encStr x], rfl, fun j u hu => ?_⟩⟩
    have hj : j = 0 := by
      have := (List.getElem?_eq_some_iff.1 hu).1
      simpa using this
    subst hj
    simp at hu; subst hu
    show cellAt w'.heap gb (0 + i * 1 + 0) = _
    rw [cell_blk hgb]
    have hi : i < (keysOf tv es).length := (List.getElem?_eq_some_iff.1 hx).1
    have h5 : ((keysOf tv es).map Proofs.encStr)[i]? = some (Proofs.encStr x) := by rw [List.getElem?_map, hx]; rfl
    rw [← htk, List.getElem?_take, if_pos (by rw [hlss]; omega)] at h5
    simpa using h5

end Go.Ev

set_option linter.unusedVariables false
set_option linter.unusedSimpArgs false
set_option maxRecDepth 100000
namespace Go.Ev.Q
open Go Go.Ev Go.Proofs
abbrev tPrgm : Tc := (.st (.pair (.slice (.st (.pair .str (.pair .str (.pair tI (.slice .str)))))) (.pair tI (.pair tI (.pair tI tI)))))
abbrev Prgm : Type := (List (Bytes × (Bytes × (Int × (List Bytes))))) × (Int × (Int × (Int × Int)))
abbrev tWindow : Tc := (.st (.pair tI tI))
abbrev Window : Type := Int × Int
abbrev tItem : Tc := (.st (.pair .str (.pair .str (.pair tI (.slice .str)))))
abbrev Item : Type := Bytes × (Bytes × (Int × (List Bytes)))
abbrev tBar : Tc := (.st (.pair tI (.pair tI (.pair tI (.pair tI .bool)))))
abbrev Bar : Type := Int × (Int × (Int × (Int × Bool)))
abbrev tChord : Tc := (.st (.pair tI (.pair tI tI)))
abbrev Chord : Type := Int × (Int × Int)
abbrev tCame : Tc := (.st (.pair tI (.pair .str .bool)))
abbrev Came : Type := Int × (Bytes × Bool)
abbrev tAct : Tc := (.st (.pair .str (.pair tI (.pair tI (.pair tI (.pair .str (.pair .str (.pair tI (.pair .bool (.pair .str tI))))))))))
abbrev Act : Type := Bytes × (Int × (Int × (Int × (Bytes × (Bytes × (Int × (Bool × (Bytes × Int))))))))
abbrev tOwn : Tc := (.st (.pair .str tI))
abbrev Own : Type := Bytes × Int
def evtab : List (Nat × TI) := [
  (2, ⟨1, false, [dI .i64 0], some tI, [], none, 8, true, none, none, false⟩),
  (3, ⟨1, false, [dI .i64 0], some tI, [], none, 8, true, none, none, false⟩),
  (4, ⟨1, false, [dB false], some .bool, [], none, 1, true, none, none, false⟩),
  (5, ⟨1, false, [dI .u8 0], some (.int .u8), [], none, 1, true, none, none, false⟩),
  (9, ⟨1, false, [dS []], some .str, [], none, 16, true, none, none, false⟩),
  (12, ⟨1, false, [dI .u64 0], some (.int .u64), [], none, 8, true, none, none, false⟩),
  (20, ⟨1, false, [.nili], none, [], none, 16, false, none, none, true⟩),
  (22, ⟨1, false, [.nil0], some (.slice tI), [], some 3, 24, false, none, none, false⟩),
  (26, ⟨1, false, [.nil0], some (.slice tItem), [], some 48, 24, false, none, none, false⟩),
  (28, ⟨5, true, [.nil0, dI .i64 0, dI .i64 0, dI .i64 0, dI .i64 0], some tPrgm, [(0, 26), (1, 3), (2, 3), (3, 3), (4, 3)], none, 56, false, none, none, false⟩),
  (30, ⟨1, false, [dI .i64 0], some tI, [], none, 8, true, none, none, false⟩),
  (36, ⟨1, false, [.nilf], none, [], none, 8, false, none, none, false⟩),
  (37, ⟨1, false, [.nilf], none, [], none, 8, false, none, none, false⟩),
  (38, ⟨1, false, [.nilf], none, [], none, 8, false, none, none, false⟩),
  (39, ⟨1, false, [.nil0], some (.slice (.st (.pair .str tWindow))), [], some 45, 24, false, none, none, false⟩),
  (42, ⟨2, true, [dI .i64 0, dI .i64 0], some tWindow, [(0, 3), (1, 3)], none, 16, true, none, none, false⟩),
  (43, ⟨2, true, [dI .i64 0, dI .i64 0], some tWindow, [(0, 3), (1, 3)], none, 16, true, none, none, false⟩),
  (44, ⟨3, true, [dS [], dI .i64 0, dI .i64 0], some (.st (.pair .str tWindow)), [(0, 9), (1, 43)], none, 32, false, none, none, false⟩),
  (45, ⟨3, true, [dS [], dI .i64 0, dI .i64 0], some (.st (.pair .str tWindow)), [(0, 9), (1, 43)], none, 32, false, none, none, false⟩),
  (46, ⟨1, false, [.nil0], some (.slice .str), [], some 9, 24, false, none, none, false⟩),
  (48, ⟨4, true, [dS [], dS [], dI .i64 0, .nil0], some tItem, [(0, 9), (1, 9), (2, 3), (3, 46)], none, 64, false, none, none, false⟩),
  (54, ⟨1, false, [.nilf], none, [], none, 8, false, none, none, false⟩),
  (55, ⟨1, false, [.nilf], none, [], none, 8, false, none, none, false⟩),
  (56, ⟨1, false, [.nilf], none, [], none, 8, false, none, none, false⟩),
  (58, ⟨1, false, [.nilf], none, [], none, 8, false, none, none, false⟩),
  (60, ⟨1, false, [.nilf], none, [], none, 8, false, none, none, false⟩),
  (61, ⟨1, false, [.nilf], none, [], none, 8, false, none, none, false⟩),
  (62, ⟨1, false, [.nilf], none, [], none, 8, false, none, none, false⟩),
  (63, ⟨1, false, [.nilf], none, [], none, 8, false, none, none, false⟩),
  (64, ⟨1, false, [.nilf], none, [], none, 8, false, none, none, false⟩),
  (65, ⟨1, false, [.nilf], none, [], none, 8, false, none, none, false⟩),
  (66, ⟨1, false, [.nilf], none, [], none, 8, false, none, none, false⟩),
  (67, ⟨1, false, [.nilf], none, [], none, 8, false, none, none, false⟩),
  (68, ⟨1, false, [.nilf], none, [], none, 8, false, none, none, false⟩),
  (69, ⟨1, false, [.nilf], none, [], none, 8, false, none, none, false⟩),
  (70, ⟨1, false, [.nilf], none, [], none, 8, false, none, none, false⟩),
  (71, ⟨1, false, [.nilf], none, [], none, 8, false, none, none, false⟩),
  (73, ⟨1, false, [.nilf], none, [], none, 8, false, none, none, false⟩),
  (75, ⟨5, true, [dI .i64 0, dI .i64 0, dI .i64 0, dI .i64 0, dB false], some tBar, [(0, 3), (1, 3), (2, 3), (3, 3), (4, 4)], none, 40, true, none, none, false⟩),
  (76, ⟨1, false, [.nil0], some (.slice tBar), [], some 75, 24, false, none, none, false⟩),
  (78, ⟨1, false, [.nilf], none, [], none, 8, false, none, none, false⟩),
  (79, ⟨3, true, [dI .i64 0, dI .i64 0, dI .i64 0], some tChord, [(0, 3), (1, 3), (2, 3)], none, 24, true, none, none, false⟩),
  (80, ⟨3, true, [dI .i64 0, dI .i64 0, dI .i64 0], some tChord, [(0, 3), (1, 3), (2, 3)], none, 24, true, none, none, false⟩),
  (81, ⟨1, false, [.nilf], none, [], none, 8, false, none, none, false⟩),
  (82, ⟨3, true, [dI .i64 0, dS [], dB false], some tCame, [(0, 3), (1, 9), (2, 4)], none, 32, true, none, none, false⟩),
  (83, ⟨3, true, [dI .i64 0, dS [], dB false], some tCame, [(0, 3), (1, 9), (2, 4)], none, 32, true, none, none, false⟩),
  (84, ⟨1, false, [.nil0], some (.slice tCame), [], some 83, 24, false, none, none, false⟩),
  (85, ⟨1, false, [.nilf], none, [], none, 8, false, none, none, false⟩),
  (86, ⟨10, true, [dS [], dI .i64 0, dI .i64 0, dI .i64 0, dS [], dS [], dI .i64 0, dB false, dS [], dI .i64 0], some tAct, [(0, 9), (1, 3), (2, 3), (3, 3), (4, 9), (5, 9), (6, 3), (7, 4), (8, 9), (9, 3)], none, 112, true, none, none, false⟩),
  (87, ⟨10, true, [dS [], dI .i64 0, dI .i64 0, dI .i64 0, dS [], dS [], dI .i64 0, dB false, dS [], dI .i64 0], some tAct, [(0, 9), (1, 3), (2, 3), (3, 3), (4, 9), (5, 9), (6, 3), (7, 4), (8, 9), (9, 3)], none, 112, true, none, none, false⟩),
  (88, ⟨1, false, [.nil0], some (.slice tAct), [], some 87, 24, false, none, none, false⟩),
  (90, ⟨1, false, [.nilf], none, [], none, 8, false, none, none, false⟩),
  (91, ⟨1, false, [.nil0], some (.slice tI), [], some 30, 24, false, none, none, false⟩),
  (93, ⟨1, false, [.nilf], none, [], none, 8, false, none, none, false⟩),
  (94, ⟨1, false, [.nilf], none, [], none, 8, false, none, none, false⟩),
  (95, ⟨1, false, [.nilf], none, [], none, 8, false, none, none, false⟩),
  (96, ⟨1, false, [.nilf], none, [], none, 8, false, none, none, false⟩),
  (97, ⟨3, true, [dI .i64 0, dI .i64 0, .nil0], some (.st (.pair tI (.pair tI (.slice .str)))), [(0, 3), (1, 3), (2, 46)], none, 40, false, none, none, false⟩),
  (98, ⟨3, true, [dI .i64 0, dI .i64 0, .nil0], some (.st (.pair tI (.pair tI (.slice .str)))), [(0, 3), (1, 3), (2, 46)], none, 40, false, none, none, false⟩),
  (99, ⟨1, false, [.nilf], none, [], none, 8, false, none, none, false⟩),
  (103, ⟨1, false, [.nilf], none, [], none, 8, false, none, none, false⟩),
  (104, ⟨1, false, [.nilf], none, [], none, 8, false, none, none, false⟩),
  (105, ⟨1, false, [.nilf], none, [], none, 8, false, none, none, false⟩),
  (106, ⟨1, false, [.nilf], none, [], none, 8, false, none, none, false⟩),
  (107, ⟨1, false, [.nilf], none, [], none, 8, false, none, none, false⟩),
  (108, ⟨1, false, [.nilf], none, [], none, 8, false, none, none, false⟩),
  (109, ⟨1, false, [.nilf], none, [], none, 8, false, none, none, false⟩),
  (113, ⟨1, false, [.nilm], none, [], none, 8, false, none, some (9, 4), false⟩),
  (114, ⟨1, false, [.nilm], none, [], none, 8, false, none, some (9, 116), false⟩),
  (115, ⟨1, false, [.nilf], none, [], none, 8, false, none, none, false⟩),
  (116, ⟨1, false, [.nil0], some (.slice tWindow), [], some 43, 24, false, none, none, false⟩),
  (117, ⟨1, false, [.nilf], none, [], none, 8, false, none, none, false⟩),
  (119, ⟨1, false, [.nilf], none, [], none, 8, false, none, none, false⟩),
  (121, ⟨1, false, [.nilf], none, [], none, 8, false, none, none, false⟩),
  (122, ⟨1, false, [.nilf], none, [], none, 8, false, none, none, false⟩),
  (124, ⟨1, false, [.nilp], none, [], none, 8, false, some 149, none, false⟩),
  (128, ⟨1, false, [.nilf], none, [], none, 8, false, none, none, false⟩),
  (129, ⟨1, false, [.nilf], none, [], none, 8, false, none, none, false⟩),
  (130, ⟨1, false, [.nilf], none, [], none, 8, false, none, none, false⟩),
  (131, ⟨1, false, [.nilf], none, [], none, 8, false, none, none, false⟩),
  (132, ⟨1, false, [.nilf], none, [], none, 8, false, none, none, false⟩),
  (133, ⟨1, false, [.nil0], some (.slice tChord), [], some 157, 24, false, none, none, false⟩),
  (138, ⟨1, false, [.nilm], none, [], none, 8, false, none, some (9, 3), false⟩),
  (144, ⟨1, false, [.nilf], none, [], none, 8, false, none, none, false⟩),
  (145, ⟨1, false, [.nilm], none, [], none, 8, false, none, some (9, 146), false⟩),
  (146, ⟨1, false, [.nil0], some (.slice tChord), [], some 170, 24, false, none, none, false⟩),
  (147, ⟨1, false, [.nilm], none, [], none, 8, false, none, some (9, 205), false⟩),
  (148, ⟨5, true, [dI .i64 0, .nilm, .nilm, .nilm, .nil0], none, [(0, 3), (1, 145), (2, 138), (3, 147), (4, 22)], none, 56, false, none, none, false⟩),
  (149, ⟨5, true, [dI .i64 0, .nilm, .nilm, .nilm, .nil0], none, [(0, 3), (1, 145), (2, 138), (3, 147), (4, 22)], none, 56, false, none, none, false⟩),
  (155, ⟨1, false, [.nilf], none, [], none, 8, false, none, none, false⟩),
  (156, ⟨3, true, [dI .i64 0, dI .i64 0, dI .i64 0], some tChord, [(0, 3), (1, 3), (2, 3)], none, 24, true, none, none, false⟩),
  (157, ⟨3, true, [dI .i64 0, dI .i64 0, dI .i64 0], some tChord, [(0, 3), (1, 3), (2, 3)], none, 24, true, none, none, false⟩),
  (158, ⟨1, false, [.nil0], some (.slice (.slice tI)), [], some 22, 24, false, none, none, false⟩),
  (159, ⟨1, false, [.nilf], none, [], none, 8, false, none, none, false⟩),
  (164, ⟨1, false, [dI .u64 0], some (.int .u64), [], none, 8, true, none, none, false⟩),
  (166, ⟨1, false, [.nilf], none, [], none, 8, false, none, none, false⟩),
  (167, ⟨1, false, [.nilf], none, [], none, 8, false, none, none, false⟩),
  (170, ⟨3, true, [dI .i64 0, dI .i64 0, dI .i64 0], some tChord, [(0, 3), (1, 3), (2, 3)], none, 24, true, none, none, false⟩),
  (171, ⟨1, false, [.nilf], none, [], none, 8, false, none, none, false⟩),
  (172, ⟨1, false, [.nilf], none, [], none, 8, false, none, none, false⟩),
  (178, ⟨1, false, [.nilp], none, [], none, 8, false, some 174, none, false⟩),
  (180, ⟨1, false, [dI .u64 0], some (.int .u64), [], none, 8, true, none, none, false⟩),
  (183, ⟨1, false, [.nil0], some (.slice (.int .u8)), [], some 5, 24, false, none, none, false⟩),
  (195, ⟨1, false, [dI .u32 0], some (.int .u32), [], none, 4, true, none, none, false⟩),
  (198, ⟨1, false, [.nilm], none, [], none, 8, false, none, some (200, 4), false⟩),
  (200, ⟨2, true, [dS [], dI .i64 0], some tOwn, [(0, 9), (1, 3)], none, 24, true, none, none, false⟩),
  (201, ⟨1, false, [.nilf], none, [], none, 8, false, none, none, false⟩),
  (202, ⟨1, false, [.nilf], none, [], none, 8, false, none, none, false⟩),
  (205, ⟨1, false, [.nilp], none, [], none, 8, false, some 207, none, false⟩),
  (207, ⟨3, true, [dB false, .nilm, .nil0], none, [(0, 4), (1, 113), (2, 46)], none, 40, false, none, none, false⟩),
  (222, ⟨5, true, [dB false, dB false, dB false, dB false, dB false], some (.st (.pair .bool (.pair .bool (.pair .bool (.pair .bool .bool))))), [(0, 4), (1, 4), (2, 4), (3, 4), (4, 4)], none, 5, false, none, none, false⟩),
  (224, ⟨1, false, [.nilf], none, [], none, 8, false, none, none, false⟩)]

def indexB (s : Bytes) (c : Int) : Int := Lib.indexByte s c.toNat.toUInt8
def trimB (s cs : Bytes) : Bytes := Lib.trimS s cs
def trimOk (s cs : Bytes) : Bool := decide (s.length ≤ 1000000) && decide (cs.length ≤ 1000) && cs.all fun b => decide (b.toNat < 128)
noncomputable def gIdx : Spec := genS [true, true] false ⟨[.undef, .undef], []⟩ [.str, .int .u8] (fun x => true) (fun x => ⟨[.dat (.int .i64) (indexB x.1 x.2.1)], []⟩)
noncomputable def gTrim : Spec := genS [true, true] false ⟨[.undef, .undef], []⟩ [.str, .str] (fun x => trimOk x.1 x.2.1) (fun x => ⟨[.dat .str (trimB x.1 x.2.1)], []⟩)

noncomputable def V0 : Env := ⟨ttOf evtab, fun _ => none, (fun _ _ => True), fun _ => none⟩
noncomputable def W42 : Spec := evSpec V0 ⟨[], [], []⟩ Tryz.f42 (codeOf Tryz.f42) [.raw] [false, false, false] true 400
noncomputable def V42 : Env := V0.add 42 W42
noncomputable def V103 : Env := V42.add 103 gIdx
noncomputable def V104 : Env := V103.add 104 gTrim
noncomputable def W78 : Spec := evSpec V104 ⟨[], [], []⟩ Tryz.f78 (codeOf Tryz.f78) [.raw] [false] true 400
noncomputable def V78 : Env := V104.add 78 W78
noncomputable def W80 : Spec := evSpec V78 ⟨[], [], []⟩ Tryz.f80 (codeOf Tryz.f80) [.raw] [false] true 400
noncomputable def V80 : Env := V78.add 80 W80
noncomputable def W67 : Spec := evSpec V80 ⟨[], [], []⟩ Tryz.f67 (codeOf Tryz.f67) [.raw] [false, false] true 400
noncomputable def V67 : Env := V80.add 67 W67
noncomputable def W66 : Spec := evSpec V67 ⟨[], [], []⟩ Tryz.f66 (codeOf Tryz.f66) [.raw] [false] true 400
noncomputable def V66 : Env := V67.add 66 W66
noncomputable def V167 : Env := V66.addIt 167 tAct
noncomputable def W117 : Spec := evSpec V167 ⟨[(0, [0, 5], [])], [], []⟩ Tryz.f117 (codeOf Tryz.f117) [] [false] true 400
noncomputable def V117 : Env := V167.add 117 W117
noncomputable def W93 : Spec := evSpec V117 ⟨[(0, [0, 5], [])], [], []⟩ Tryz.f93 (codeOf Tryz.f93) [] [false] true 400
noncomputable def V93 : Env := V117.add 93 W93
noncomputable def W44 : Spec := evSpec V93 ⟨[(0, [0, 1, 7, 8], [])], [], []⟩ Tryz.f44 (codeOf Tryz.f44) [.raw] [false, false] true 400
noncomputable def V44 : Env := V93.add 44 W44
noncomputable def W79 : Spec := evSpec V44 ⟨[], [], []⟩ Tryz.f79 (codeOf Tryz.f79) [.raw] [false, false] true 400
noncomputable def V79 : Env := V44.add 79 W79
noncomputable def W81 : Spec := evSpec V79 ⟨[(0, [0, 11, 12, 13], [])], [], []⟩ Tryz.f81 (codeOf Tryz.f81) [.raw] [false] true 400
noncomputable def V81 : Env := V79.add 81 W81
noncomputable def W55 : Spec := evSpec V81 ⟨[(0, [0, 9, 10, 11], [])], [], []⟩ Tryz.f55 (codeOf Tryz.f55) [.raw] [false] true 400
noncomputable def V55 : Env := V81.add 55 W55
noncomputable def W34 : Spec := evSpec V55 ⟨[], [], []⟩ Tryz.f34 (codeOf Tryz.f34) [.raw] [false] true 400
noncomputable def V34 : Env := V55.add 34 W34
noncomputable def W98 : Spec := evSpec V34 ⟨[], [], []⟩ Tryz.f98 (codeOf Tryz.f98) [.raw] [false, false, false] true 400
noncomputable def V98 : Env := V34.add 98 W98
noncomputable def W72 : Spec := evSpec V98 ⟨[], [], []⟩ Tryz.f72 (codeOf Tryz.f72) [.raw] [false, false] true 400
noncomputable def V72 : Env := V98.add 72 W72
noncomputable def W40 : Spec := evSpec V72 ⟨[(0, [1, 4, 5, 9, 10, 11], [])], [], []⟩ Tryz.f40 (codeOf Tryz.f40) [.raw, .raw] [false] true 400
noncomputable def V40 : Env := V72.add 40 W40
noncomputable def W11 : Spec := evSpec V40 ⟨[], [], []⟩ Tryz.f11 (codeOf Tryz.f11) [.raw, .raw] [false] true 400
noncomputable def V11 : Env := V40.add 11 W11
noncomputable def W12 : Spec := evSpec V11 ⟨[(0, [5, 6, 7], [])], [], []⟩ Tryz.f12 (codeOf Tryz.f12) [.raw] [false] true 400
noncomputable def V12 : Env := V11.add 12 W12
noncomputable def W171 : Spec := evSpec V12 ⟨[(0, [0, 1, 7, 8], [])], [], []⟩ Tryz.f171 (codeOf Tryz.f171) [.raw] [false, false] true 400
noncomputable def V171 : Env := V12.add 171 W171
noncomputable def W155 : Spec := evSpec V171 ⟨[], [], []⟩ Tryz.f155 (codeOf Tryz.f155) [.raw] [false, false] true 400
noncomputable def V155 : Env := V171.add 155 W155
noncomputable def W128 : Spec := evSpec V155 ⟨[], [], []⟩ Tryz.f128 (codeOf Tryz.f128) [.raw] [false] true 400
noncomputable def V128 : Env := V155.add 128 W128
noncomputable def W105 : Spec := evSpec V128 ⟨[], [], []⟩ Tryz.f105 (codeOf Tryz.f105) [.raw] [false] true 400
noncomputable def V105 : Env := V128.add 105 W105
noncomputable def W82 : Spec := evSpec V105 ⟨[(0, [0, 3, 7, 8, 9], [])], [], []⟩ Tryz.f82 (codeOf Tryz.f82) [.raw] [false] true 400
noncomputable def V82 : Env := V105.add 82 W82
noncomputable def W83 : Spec := evSpec V82 ⟨[(0, [0, 4, 5, 12, 13, 14], []), (2, [0, 4, 5, 44, 45, 46], []), (4, [0, 4, 5, 9, 44, 45, 46, 55, 56, 57], [])], [], []⟩ Tryz.f83 (codeOf Tryz.f83) [.raw, .raw] [false] true 400
noncomputable def V83 : Env := V82.add 83 W83
noncomputable def W84 : Spec := evSpec V83 ⟨[(0, [0, 2, 7, 12, 13, 14], []), (2, [0, 2, 7, 9, 10, 12, 13, 14], []), (4, [0, 2, 7, 9, 10, 11, 12, 13, 14], [])], [], []⟩ Tryz.f84 (codeOf Tryz.f84) [.raw] [false, false, false] true 400
noncomputable def V84 : Env := V83.add 84 W84
noncomputable def W56 : Spec := evSpec V84 ⟨[], [], []⟩ Tryz.f56 (codeOf Tryz.f56) [.raw] [false] true 400
noncomputable def V56 : Env := V84.add 56 W56
noncomputable def W57 : Spec := evSpec V56 ⟨[], [], []⟩ Tryz.f57 (codeOf Tryz.f57) [.raw] [false] true 400
noncomputable def V57 : Env := V56.add 57 W57
noncomputable def W36 : Spec := evSpec V57 ⟨[], [], []⟩ Tryz.f36 (codeOf Tryz.f36) [.raw, .raw] [false] true 400
noncomputable def V36 : Env := V57.add 36 W36
noncomputable def W85 : Spec := evSpec V36 ⟨[], [], []⟩ Tryz.f85 (codeOf Tryz.f85) [.raw] [false] true 400
noncomputable def V85 : Env := V36.add 85 W85
noncomputable def W86 : Spec := evSpec V85 ⟨[], [], []⟩ Tryz.f86 (codeOf Tryz.f86) [.raw] [false] true 400
noncomputable def V86 : Env := V85.add 86 W86
noncomputable def W58 : Spec := evSpec V86 ⟨[], [], []⟩ Tryz.f58 (codeOf Tryz.f58) [.raw] [false] true 400
noncomputable def V58 : Env := V86.add 58 W58
noncomputable def W59 : Spec := evSpec V58 ⟨[], [], []⟩ Tryz.f59 (codeOf Tryz.f59) [.raw] [] true 400
noncomputable def V59 : Env := V58.add 59 W59
noncomputable def W60 : Spec := evSpec V59 ⟨[], [], []⟩ Tryz.f60 (codeOf Tryz.f60) [.raw] [] true 400
noncomputable def V60 : Env := V59.add 60 W60
noncomputable def W129 : Spec := evSpec V60 ⟨[], [], []⟩ Tryz.f129 (codeOf Tryz.f129) [.raw] [false] true 400
noncomputable def V129 : Env := V60.add 129 W129
noncomputable def W144 : Spec := evSpec V129 ⟨[], [], []⟩ Tryz.f144 (codeOf Tryz.f144) [.raw] [false] true 400
noncomputable def V144 : Env := V129.add 144 W144
noncomputable def W156 : Spec := evSpec V144 ⟨[], [], []⟩ Tryz.f156 (codeOf Tryz.f156) [.raw] [false] true 400
noncomputable def V156 : Env := V144.add 156 W156
noncomputable def W157 : Spec := evSpec V156 ⟨[], [], []⟩ Tryz.f157 (codeOf Tryz.f157) [.raw] [false] true 400
noncomputable def V157 : Env := V156.add 157 W157
noncomputable def W130 : Spec := evSpec V157 ⟨[], [], []⟩ Tryz.f130 (codeOf Tryz.f130) [.raw] [false] true 400
noncomputable def V130 : Env := V157.add 130 W130
noncomputable def W131 : Spec := evSpec V130 ⟨[(0, [0, 1, 4], [])], [], []⟩ Tryz.f131 (codeOf Tryz.f131) [] [false, false] true 400
noncomputable def V131 : Env := V130.add 131 W131
noncomputable def W158 : Spec := evSpec V131 ⟨[], [], []⟩ Tryz.f158 (codeOf Tryz.f158) [.raw] [false] true 400
noncomputable def V158 : Env := V131.add 158 W158
noncomputable def W172 : Spec := evSpec V158 ⟨[], [], []⟩ Tryz.f172 (codeOf Tryz.f172) [.raw] [false] true 400
noncomputable def V172 : Env := V158.add 172 W172
noncomputable def W173 : Spec := evSpec V172 ⟨[], [], []⟩ Tryz.f173 (codeOf Tryz.f173) [.raw] [false] true 400
noncomputable def V173 : Env := V172.add 173 W173
noncomputable def W159 : Spec := evSpec V173 ⟨[], [], []⟩ Tryz.f159 (codeOf Tryz.f159) [.raw] [false] true 400
noncomputable def V159 : Env := V173.add 159 W159
noncomputable def W132 : Spec := evSpec V159 ⟨[(0, [0, 1, 3, 4, 10, 11, 12, 13, 14, 15, 16], []), (2, [0, 1, 3, 4, 10, 11, 12, 13, 17], [])], [], []⟩ Tryz.f132 (codeOf Tryz.f132) [.raw, .raw] [false, false, false, false, false] true 400
noncomputable def V132 : Env := V159.add 132 W132
noncomputable def W106 : Spec := evSpec V132 ⟨[], [], []⟩ Tryz.f106 (codeOf Tryz.f106) [.raw] [false, false] true 400
noncomputable def V106 : Env := V132.add 106 W106
noncomputable def W87 : Spec := evSpec V106 ⟨[], [], []⟩ Tryz.f87 (codeOf Tryz.f87) [.raw] [false] true 400
noncomputable def V87 : Env := V106.add 87 W87
noncomputable def W61 : Spec := evSpec V87 ⟨[], [], []⟩ Tryz.f61 (codeOf Tryz.f61) [.raw] [false] true 400
noncomputable def V61 : Env := V87.add 61 W61
noncomputable def W37 : Spec := evSpec V61 ⟨[], [], []⟩ Tryz.f37 (codeOf Tryz.f37) [.raw, .raw] [false] true 400
noncomputable def V37 : Env := V61.add 37 W37
noncomputable def W63 : Spec := evSpec V37 ⟨[], [], []⟩ Tryz.f63 (codeOf Tryz.f63) [.raw] [false] true 400
noncomputable def V63 : Env := V37.add 63 W63
noncomputable def W99 : Spec := evSpec V63 ⟨[], [], []⟩ Tryz.f99 (codeOf Tryz.f99) [.raw] [false] true 400
noncomputable def V99 : Env := V63.add 99 W99
noncomputable def W73 : Spec := evSpec V99 ⟨[], [], []⟩ Tryz.f73 (codeOf Tryz.f73) [.raw] [false, false] true 400
noncomputable def V73 : Env := V99.add 73 W73
noncomputable def W107 : Spec := evSpec V73 ⟨[(0, [3, 6, 7, 8], [])], [], []⟩ Tryz.f107 (codeOf Tryz.f107) [.raw] [false] true 400
noncomputable def V107 : Env := V73.add 107 W107
noncomputable def W133 : Spec := evSpec V107 ⟨[], [], []⟩ Tryz.f133 (codeOf Tryz.f133) [.raw] [false, false] true 400
noncomputable def V133 : Env := V107.add 133 W133
noncomputable def W108 : Spec := evSpec V133 ⟨[], [], []⟩ Tryz.f108 (codeOf Tryz.f108) [.raw] [false, false] true 400
noncomputable def V108 : Env := V133.add 108 W108
noncomputable def W109 : Spec := evSpec V108 ⟨[], [], []⟩ Tryz.f109 (codeOf Tryz.f109) [.raw] [false] true 400
noncomputable def V109 : Env := V108.add 109 W109
noncomputable def W88 : Spec := evSpec V109 ⟨[], [], []⟩ Tryz.f88 (codeOf Tryz.f88) [.raw] [false, false] true 400
noncomputable def V88 : Env := V109.add 88 W88
noncomputable def W62 : Spec := evSpec V88 ⟨[(0, [0, 8, 9, 10], [])], [], []⟩ Tryz.f62 (codeOf Tryz.f62) [.raw] [false] true 400
noncomputable def V62 : Env := V88.add 62 W62
noncomputable def W89 : Spec := evSpec V62 ⟨[(0, [3, 7, 8, 9], [])], [], []⟩ Tryz.f89 (codeOf Tryz.f89) [.raw] [false] true 400
noncomputable def V89 : Env := V62.add 89 W89
noncomputable def W64 : Spec := evSpec V89 ⟨[(0, [3, 4, 15, 16, 17], []), (3, [3, 69], []), (5, [3, 85], [])], [], []⟩ Tryz.f64 (codeOf Tryz.f64) [.raw] [false] true 400
noncomputable def V64 : Env := V89.add 64 W64
noncomputable def W90 : Spec := evSpec V64 ⟨[(0, [0, 1, 7, 8], [])], [], []⟩ Tryz.f90 (codeOf Tryz.f90) [.raw] [false, false] true 400
noncomputable def V90 : Env := V64.add 90 W90
noncomputable def W65 : Spec := evSpec V90 ⟨[], [], []⟩ Tryz.f65 (codeOf Tryz.f65) [.raw] [false, false] true 400
noncomputable def V65 : Env := V90.add 65 W65
noncomputable def V68 : Env := V65.add 68 (keysS [93, 117])
noncomputable def W69 : Spec := evSpec V68 ⟨[], [], []⟩ Tryz.f69 (codeOf Tryz.f69) [.raw] [false] true 400
noncomputable def V69 : Env := V68.add 69 W69
noncomputable def W38 : Spec := evSpec V69 ⟨[(0, [3, 7, 21], [])], [], []⟩ Tryz.f38 (codeOf Tryz.f38) [.raw, .raw] [false, false] true 400
noncomputable def V38 : Env := V69.add 38 W38
noncomputable def W166 : Spec := evSpec V38 ⟨[], [], []⟩ Tryz.f166 (codeOf Tryz.f166) [.raw] [false] true 400
noncomputable def V166 : Env := V38.add 166 W166
noncomputable def W145 : Spec := evSpec V166 ⟨[], [], []⟩ Tryz.f145 (codeOf Tryz.f145) [.raw] [false] true 400
noncomputable def V145 : Env := V166.add 145 W145
noncomputable def W146 : Spec := evSpec V145 ⟨[], [], []⟩ Tryz.f146 (codeOf Tryz.f146) [.raw] [false, false] true 400
noncomputable def V146 : Env := V145.add 146 W146
noncomputable def W113 : Spec := evSpec V146 ⟨[(0, [0, 13, 14, 15], []), (2, [6, 39, 40, 41], [])], [], []⟩ Tryz.f113 (codeOf Tryz.f113) [.raw] [false] true 400
noncomputable def V113 : Env := V146.add 113 W113
noncomputable def W94 : Spec := evSpec V113 ⟨[], [], []⟩ Tryz.f94 (codeOf Tryz.f94) [.raw] [false, false] true 400
noncomputable def V94 : Env := V113.add 94 W94
noncomputable def W147 : Spec := evSpec V94 ⟨[], [], []⟩ Tryz.f147 (codeOf Tryz.f147) [.raw] [false] true 400
noncomputable def V147 : Env := V94.add 147 W147
noncomputable def W148 : Spec := evSpec V147 ⟨[(0, [0, 2, 3], [])], [], []⟩ Tryz.f148 (codeOf Tryz.f148) [] [false] true 400
noncomputable def V148 : Env := V147.add 148 W148
noncomputable def W114 : Spec := evSpec V148 ⟨[(0, [3, 5, 6], [])], [], []⟩ Tryz.f114 (codeOf Tryz.f114) [.raw] [false, false] true 400
noncomputable def V114 : Env := V148.add 114 W114
noncomputable def W97 : Spec := evSpec V114 ⟨[], [], []⟩ Tryz.f97 (codeOf Tryz.f97) [.raw] [false, false] true 400
noncomputable def V97 : Env := V114.add 97 W97
noncomputable def W149 : Spec := evSpec V97 ⟨[], [], []⟩ Tryz.f149 (codeOf Tryz.f149) [.raw] [false, false] true 400
noncomputable def V149 : Env := V97.add 149 W149
noncomputable def W115 : Spec := evSpec V149 ⟨[], [], []⟩ Tryz.f115 (codeOf Tryz.f115) [.raw] [false, false] true 400
noncomputable def V115 : Env := V149.add 115 W115
noncomputable def W96 : Spec := evSpec V115 ⟨[], [], []⟩ Tryz.f96 (codeOf Tryz.f96) [.raw] [false] true 400
noncomputable def V96 : Env := V115.add 96 W96
noncomputable def W71 : Spec := evSpec V96 ⟨[(0, [0, 3, 11, 12, 13], [])], [], []⟩ Tryz.f71 (codeOf Tryz.f71) [.raw] [false] true 400
noncomputable def V71 : Env := V96.add 71 W71
noncomputable def W116 : Spec := evSpec V71 ⟨[], [], []⟩ Tryz.f116 (codeOf Tryz.f116) [] [false, false] true 400
noncomputable def V116 : Env := V71.add 116 W116
noncomputable def W95 : Spec := evSpec V116 ⟨[(0, [0, 5, 16, 17, 18], [])], [], []⟩ Tryz.f95 (codeOf Tryz.f95) [.raw] [false, false] true 400
noncomputable def V95 : Env := V116.add 95 W95
noncomputable def W70 : Spec := evSpec V95 ⟨[], [], []⟩ Tryz.f70 (codeOf Tryz.f70) [.raw, .raw] [false, false] true 400
noncomputable def V70 : Env := V95.add 70 W70
noncomputable def W39 : Spec := evSpec V70 ⟨[], [], []⟩ Tryz.f39 (codeOf Tryz.f39) [.raw, .raw] [false, false] true 400
noncomputable def V39 : Env := V70.add 39 W39
noncomputable def W10 : Spec := evSpec V39 ⟨[], [], []⟩ Tryz.f10 (codeOf Tryz.f10) [.raw] [] true 400
noncomputable def V10 : Env := V39.add 10 W10
end Go.Ev.Q

set_option linter.unusedVariables false
set_option linter.unusedSimpArgs false
set_option maxRecDepth 100000
namespace Go.Ev.Q
open Go Go.Ev Go.Proofs

theorem mo : Tryz.prog.follows .mixedOrders = true := by kernel_rfl
theorem v0 : EnvOk Tryz.prog V0 := env_nil (by kernel_rfl)

theorem g103 : Sound Tryz.prog V0.gl 103 gIdx ∧ Enters Tryz.prog 103 := by
  refine ⟨pure_sound (P := Tryz.prog) (G := V0.gl) (ts := [.str, .int .u8]) (out := fun x => .dat tI (indexB x.1 x.2.1)) (fun _ => rfl) (fun _ => rfl) ?_, enters_of Tryz.func103 rfl rfl⟩
  rintro ⟨s, c, _⟩ _ w V vals hV _ ⟨u1, us, rfl, h1, u2, us', rfl, h2, rfl⟩
  cases h1
  cases h2
  refine (Any.strings_IndexByte Tryz.lays137 ⟨List.toArray s⟩ c w).mono ?_
  rintro e w' ⟨rfl, rfl⟩
  exact ⟨_, rfl, RowKit.Below.refl _ _, fun _ => rfl⟩

theorem g104 : Sound Tryz.prog V0.gl 104 gTrim ∧ Enters Tryz.prog 104 := by
  refine ⟨pure_sound (P := Tryz.prog) (G := V0.gl) (ts := [.str, .str]) (out := fun x => .dat .str (trimB x.1 x.2.1)) (fun _ => rfl) (fun _ => rfl) ?_, enters_of Tryz.func104 rfl rfl⟩
  rintro ⟨s, c, _⟩ hok w V vals hV _ ⟨u1, us, rfl, h1, u2, us', rfl, h2, rfl⟩
  cases h1
  cases h2
  have hok' : (decide (List.length s ≤ 1000000) && decide (List.length c ≤ 1000) && c.all fun b => decide (b.toNat < 128)) = true := hok
  simp only [Bool.and_eq_true, decide_eq_true_eq] at hok'
  obtain ⟨⟨h1, h2⟩, h3⟩ := hok'
  refine (Any.strings_Trim_laid Tryz.lays160 (by kernel_rfl) ⟨List.toArray s⟩ ⟨List.toArray c⟩ w (by show (List.toArray s).size ≤ _; simp; omega) (by show (List.toArray c).size < _; simp; omega) (ascii_of_all h3)).mono ?_
  rintro e w' ⟨rfl, hb⟩
  exact ⟨_, rfl, hb, fun _ => rfl⟩

theorem sorts (m : Nat) : AnyZ.SortsIn Tryz.prog Tryz.sorted68_ren Fence.wide m :=
  ⟨fun blk off cap ss W hH hblk hsz => callsIn_wide.2 (AnyM.slices_Sort_string Tryz.sort92 blk off cap ss W hH hblk hsz),
   fun p cap W => callsIn_wide.2 (AnyM.slices_Sort_string_none Tryz.sort92 p cap W)⟩

theorem sk1 : SortedKeys Tryz.prog 9 68 93 := by
  intro Bm b nn D0 R w hBm hc hown hmax hb
  have hseq : SeqGives Fence.wide 2 Tryz.prog 93 #[.pointer (some ⟨Bm, 0, none⟩)] encStr (fun ss => ss.Perm (strKeys D0)) (Maps.size D0) w :=
    AnyZ.keys_gives (ρ := Tryz.keys69_ren) { Tryz.keys69 with } Fence.wide _ trivial rfl (by omega) Bm b nn D0 w hBm hc hown
  exact AnyZ.sorted_in Tryz.sorted68 Fence.wide 5 trivial trivial trivial trivial rfl (by omega) (sorts _) (enters_of Tryz.func92 rfl rfl) 93 _ trivial (enters_of Tryz.func93 rfl rfl) _ _ hmax hb _ hseq

theorem sk2 : SortedKeys Tryz.prog 9 68 117 := by
  intro Bm b nn D0 R w hBm hc hown hmax hb
  have hseq : SeqGives Fence.wide 2 Tryz.prog 117 #[.pointer (some ⟨Bm, 0, none⟩)] encStr (fun ss => ss.Perm (strKeys D0)) (Maps.size D0) w :=
    AnyZ.keys_gives (ρ := Tryz.keys96_ren) { Tryz.keys96 with } Fence.wide _ trivial rfl (by omega) Bm b nn D0 w hBm hc hown
  exact AnyZ.sorted_in Tryz.sorted68 Fence.wide 5 trivial trivial trivial trivial rfl (by omega) (sorts _) (enters_of Tryz.func92 rfl rfl) 117 _ trivial (enters_of Tryz.func117 rfl rfl) _ _ hmax hb _ hseq

theorem mem2 {a b g : Nat} (h : mem g [a, b] = true) : g = a ∨ g = b := by
  simpa [mem] using h

theorem g68 : Sound Tryz.prog V0.gl 68 (keysS [93, 117]) ∧ Enters Tryz.prog 68 := by
  refine ⟨sortedKeys_sound (k := 9) (by kernel_rfl) fun g hg => ?_, enters_of Tryz.func68 rfl rfl⟩
  rcases mem2 hg with rfl | rfl
  · exact sk1
  · exact sk2

theorem b167 : BackOK Tryz.prog 167 tAct ∧ Enters Tryz.prog 167 := by
  refine ⟨back_ok (sl := 88) (el := 87) v0 Tryz.func167 rfl rfl rfl ?_ rfl rfl rfl rfl rfl, enters_of Tryz.func167 rfl rfl⟩
  exact ⟨_, _, _, _, _, _, _, _, _, _, _, _, _, _, _, _, _, _, _, _, _, _, _, _, _, _, _, _, _, _, rfl, rfl, rfl, rfl, rfl, ⟨rfl, rfl, rfl⟩, ⟨rfl, rfl, rfl⟩, ⟨rfl, rfl, rfl⟩, ⟨rfl, rfl, rfl⟩, ⟨rfl, rfl, rfl⟩, ⟨rfl, rfl, rfl⟩, ⟨rfl, rfl, rfl⟩, ⟨rfl, rfl, rfl⟩, ⟨rfl, rfl, rfl⟩, ⟨rfl, rfl, rfl⟩,
    ⟨rfl, rfl, rfl⟩, ⟨rfl, rfl, rfl⟩, ⟨rfl, rfl, rfl⟩, ⟨rfl, rfl, rfl⟩, ⟨rfl, rfl, rfl⟩, ⟨rfl, rfl, rfl⟩, ⟨rfl, rfl, rfl⟩⟩

theorem v42 : EnvOk Tryz.prog V42 := env_ev v0 mo 42 _ _ _ _ _ Tryz.func42 rfl rfl
theorem v103 : EnvOk Tryz.prog V103 := env_add v42 g103
theorem v104 : EnvOk Tryz.prog V104 := env_add v103 g104
theorem v78 : EnvOk Tryz.prog V78 := env_ev v104 mo 78 _ _ _ _ _ Tryz.func78 rfl rfl
theorem v80 : EnvOk Tryz.prog V80 := env_ev v78 mo 80 _ _ _ _ _ Tryz.func80 rfl rfl
theorem v67 : EnvOk Tryz.prog V67 := env_ev v80 mo 67 _ _ _ _ _ Tryz.func67 rfl rfl
theorem v66 : EnvOk Tryz.prog V66 := env_ev v67 mo 66 _ _ _ _ _ Tryz.func66 rfl rfl
theorem v167 : EnvOk Tryz.prog V167 := env_it v66 b167
theorem v117 : EnvOk Tryz.prog V117 := env_ev v167 mo 117 _ _ _ _ _ Tryz.func117 rfl rfl
theorem v93 : EnvOk Tryz.prog V93 := env_ev v117 mo 93 _ _ _ _ _ Tryz.func93 rfl rfl
theorem v44 : EnvOk Tryz.prog V44 := env_ev v93 mo 44 _ _ _ _ _ Tryz.func44 rfl rfl
theorem v79 : EnvOk Tryz.prog V79 := env_ev v44 mo 79 _ _ _ _ _ Tryz.func79 rfl rfl
theorem v81 : EnvOk Tryz.prog V81 := env_ev v79 mo 81 _ _ _ _ _ Tryz.func81 rfl rfl
theorem v55 : EnvOk Tryz.prog V55 := env_ev v81 mo 55 _ _ _ _ _ Tryz.func55 rfl rfl
theorem v34 : EnvOk Tryz.prog V34 := env_ev v55 mo 34 _ _ _ _ _ Tryz.func34 rfl rfl
theorem v98 : EnvOk Tryz.prog V98 := env_ev v34 mo 98 _ _ _ _ _ Tryz.func98 rfl rfl
theorem v72 : EnvOk Tryz.prog V72 := env_ev v98 mo 72 _ _ _ _ _ Tryz.func72 rfl rfl
theorem v40 : EnvOk Tryz.prog V40 := env_ev v72 mo 40 _ _ _ _ _ Tryz.func40 rfl rfl
theorem v11 : EnvOk Tryz.prog V11 := env_ev v40 mo 11 _ _ _ _ _ Tryz.func11 rfl rfl
theorem v12 : EnvOk Tryz.prog V12 := env_ev v11 mo 12 _ _ _ _ _ Tryz.func12 rfl rfl
theorem v171 : EnvOk Tryz.prog V171 := env_ev v12 mo 171 _ _ _ _ _ Tryz.func171 rfl rfl
theorem v155 : EnvOk Tryz.prog V155 := env_ev v171 mo 155 _ _ _ _ _ Tryz.func155 rfl rfl
theorem v128 : EnvOk Tryz.prog V128 := env_ev v155 mo 128 _ _ _ _ _ Tryz.func128 rfl rfl
theorem v105 : EnvOk Tryz.prog V105 := env_ev v128 mo 105 _ _ _ _ _ Tryz.func105 rfl rfl
theorem v82 : EnvOk Tryz.prog V82 := env_ev v105 mo 82 _ _ _ _ _ Tryz.func82 rfl rfl
theorem v83 : EnvOk Tryz.prog V83 := env_ev v82 mo 83 _ _ _ _ _ Tryz.func83 rfl rfl
theorem v84 : EnvOk Tryz.prog V84 := env_ev v83 mo 84 _ _ _ _ _ Tryz.func84 rfl rfl
theorem v56 : EnvOk Tryz.prog V56 := env_ev v84 mo 56 _ _ _ _ _ Tryz.func56 rfl rfl
theorem v57 : EnvOk Tryz.prog V57 := env_ev v56 mo 57 _ _ _ _ _ Tryz.func57 rfl rfl
theorem v36 : EnvOk Tryz.prog V36 := env_ev v57 mo 36 _ _ _ _ _ Tryz.func36 rfl rfl
theorem v85 : EnvOk Tryz.prog V85 := env_ev v36 mo 85 _ _ _ _ _ Tryz.func85 rfl rfl
theorem v86 : EnvOk Tryz.prog V86 := env_ev v85 mo 86 _ _ _ _ _ Tryz.func86 rfl rfl
theorem v58 : EnvOk Tryz.prog V58 := env_ev v86 mo 58 _ _ _ _ _ Tryz.func58 rfl rfl
theorem v59 : EnvOk Tryz.prog V59 := env_ev v58 mo 59 _ _ _ _ _ Tryz.func59 rfl rfl
theorem v60 : EnvOk Tryz.prog V60 := env_ev v59 mo 60 _ _ _ _ _ Tryz.func60 rfl rfl
theorem v129 : EnvOk Tryz.prog V129 := env_ev v60 mo 129 _ _ _ _ _ Tryz.func129 rfl rfl
theorem v144 : EnvOk Tryz.prog V144 := env_ev v129 mo 144 _ _ _ _ _ Tryz.func144 rfl rfl
theorem v156 : EnvOk Tryz.prog V156 := env_ev v144 mo 156 _ _ _ _ _ Tryz.func156 rfl rfl
theorem v157 : EnvOk Tryz.prog V157 := env_ev v156 mo 157 _ _ _ _ _ Tryz.func157 rfl rfl
theorem v130 : EnvOk Tryz.prog V130 := env_ev v157 mo 130 _ _ _ _ _ Tryz.func130 rfl rfl
theorem v131 : EnvOk Tryz.prog V131 := env_ev v130 mo 131 _ _ _ _ _ Tryz.func131 rfl rfl
theorem v158 : EnvOk Tryz.prog V158 := env_ev v131 mo 158 _ _ _ _ _ Tryz.func158 rfl rfl
theorem v172 : EnvOk Tryz.prog V172 := env_ev v158 mo 172 _ _ _ _ _ Tryz.func172 rfl rfl
theorem v173 : EnvOk Tryz.prog V173 := env_ev v172 mo 173 _ _ _ _ _ Tryz.func173 rfl rfl
theorem v159 : EnvOk Tryz.prog V159 := env_ev v173 mo 159 _ _ _ _ _ Tryz.func159 rfl rfl
theorem v132 : EnvOk Tryz.prog V132 := env_ev v159 mo 132 _ _ _ _ _ Tryz.func132 rfl rfl
theorem v106 : EnvOk Tryz.prog V106 := env_ev v132 mo 106 _ _ _ _ _ Tryz.func106 rfl rfl
theorem v87 : EnvOk Tryz.prog V87 := env_ev v106 mo 87 _ _ _ _ _ Tryz.func87 rfl rfl
theorem v61 : EnvOk Tryz.prog V61 := env_ev v87 mo 61 _ _ _ _ _ Tryz.func61 rfl rfl
theorem v37 : EnvOk Tryz.prog V37 := env_ev v61 mo 37 _ _ _ _ _ Tryz.func37 rfl rfl
theorem v63 : EnvOk Tryz.prog V63 := env_ev v37 mo 63 _ _ _ _ _ Tryz.func63 rfl rfl
theorem v99 : EnvOk Tryz.prog V99 := env_ev v63 mo 99 _ _ _ _ _ Tryz.func99 rfl rfl
theorem v73 : EnvOk Tryz.prog V73 := env_ev v99 mo 73 _ _ _ _ _ Tryz.func73 rfl rfl
theorem v107 : EnvOk Tryz.prog V107 := env_ev v73 mo 107 _ _ _ _ _ Tryz.func107 rfl rfl
theorem v133 : EnvOk Tryz.prog V133 := env_ev v107 mo 133 _ _ _ _ _ Tryz.func133 rfl rfl
theorem v108 : EnvOk Tryz.prog V108 := env_ev v133 mo 108 _ _ _ _ _ Tryz.func108 rfl rfl
theorem v109 : EnvOk Tryz.prog V109 := env_ev v108 mo 109 _ _ _ _ _ Tryz.func109 rfl rfl
theorem v88 : EnvOk Tryz.prog V88 := env_ev v109 mo 88 _ _ _ _ _ Tryz.func88 rfl rfl
theorem v62 : EnvOk Tryz.prog V62 := env_ev v88 mo 62 _ _ _ _ _ Tryz.func62 rfl rfl
theorem v89 : EnvOk Tryz.prog V89 := env_ev v62 mo 89 _ _ _ _ _ Tryz.func89 rfl rfl
theorem v64 : EnvOk Tryz.prog V64 := env_ev v89 mo 64 _ _ _ _ _ Tryz.func64 rfl rfl
theorem v90 : EnvOk Tryz.prog V90 := env_ev v64 mo 90 _ _ _ _ _ Tryz.func90 rfl rfl
theorem v65 : EnvOk Tryz.prog V65 := env_ev v90 mo 65 _ _ _ _ _ Tryz.func65 rfl rfl
theorem v68 : EnvOk Tryz.prog V68 := env_add v65 g68
theorem v69 : EnvOk Tryz.prog V69 := env_ev v68 mo 69 _ _ _ _ _ Tryz.func69 rfl rfl
theorem v38 : EnvOk Tryz.prog V38 := env_ev v69 mo 38 _ _ _ _ _ Tryz.func38 rfl rfl
theorem v166 : EnvOk Tryz.prog V166 := env_ev v38 mo 166 _ _ _ _ _ Tryz.func166 rfl rfl
theorem v145 : EnvOk Tryz.prog V145 := env_ev v166 mo 145 _ _ _ _ _ Tryz.func145 rfl rfl
theorem v146 : EnvOk Tryz.prog V146 := env_ev v145 mo 146 _ _ _ _ _ Tryz.func146 rfl rfl
theorem v113 : EnvOk Tryz.prog V113 := env_ev v146 mo 113 _ _ _ _ _ Tryz.func113 rfl rfl
theorem v94 : EnvOk Tryz.prog V94 := env_ev v113 mo 94 _ _ _ _ _ Tryz.func94 rfl rfl
theorem v147 : EnvOk Tryz.prog V147 := env_ev v94 mo 147 _ _ _ _ _ Tryz.func147 rfl rfl
theorem v148 : EnvOk Tryz.prog V148 := env_ev v147 mo 148 _ _ _ _ _ Tryz.func148 rfl rfl
theorem v114 : EnvOk Tryz.prog V114 := env_ev v148 mo 114 _ _ _ _ _ Tryz.func114 rfl rfl
theorem v97 : EnvOk Tryz.prog V97 := env_ev v114 mo 97 _ _ _ _ _ Tryz.func97 rfl rfl
theorem v149 : EnvOk Tryz.prog V149 := env_ev v97 mo 149 _ _ _ _ _ Tryz.func149 rfl rfl
theorem v115 : EnvOk Tryz.prog V115 := env_ev v149 mo 115 _ _ _ _ _ Tryz.func115 rfl rfl
theorem v96 : EnvOk Tryz.prog V96 := env_ev v115 mo 96 _ _ _ _ _ Tryz.func96 rfl rfl
theorem v71 : EnvOk Tryz.prog V71 := env_ev v96 mo 71 _ _ _ _ _ Tryz.func71 rfl rfl
theorem v116 : EnvOk Tryz.prog V116 := env_ev v71 mo 116 _ _ _ _ _ Tryz.func116 rfl rfl
theorem v95 : EnvOk Tryz.prog V95 := env_ev v116 mo 95 _ _ _ _ _ Tryz.func95 rfl rfl
theorem v70 : EnvOk Tryz.prog V70 := env_ev v95 mo 70 _ _ _ _ _ Tryz.func70 rfl rfl
theorem v39 : EnvOk Tryz.prog V39 := env_ev v70 mo 39 _ _ _ _ _ Tryz.func39 rfl rfl
theorem v10 : EnvOk Tryz.prog V10 := env_ev v39 mo 10 _ _ _ _ _ Tryz.func10 rfl rfl

theorem ready_sound : Sound Tryz.prog V0.gl 10 (genS [] false ⟨[], []⟩ [] (fun _ => true) (fun _ => ⟨[.dat .bool true], []⟩)) ∧ Enters Tryz.prog 10 := by
  have h := (v10).fss 10 W10 rfl
  exact ⟨ev_const h.1 (by kernel_rfl) (by kernel_rfl), h.2⟩
end Go.Ev.Q

set_option linter.unusedVariables false
set_option linter.unusedSimpArgs false
namespace Go.Ev.Y
open Go Go.Ev Go.Proofs
theorem r10 : R10 := Go.Ev.Q.ready_sound

end Go.Ev.Y

namespace Go.Ev.Y
open Go Go.Ev Go.Proofs
theorem e45 : EnvOk Tryz.prog En45 := sd45 e0 r45
theorem e21 : EnvOk Tryz.prog En21 := sd21 e45 r21
theorem e20 : EnvOk Tryz.prog En20 := sd20 e21 r20
theorem e44 : EnvOk Tryz.prog En44 := sd44 e20 r44
theorem e18 : EnvOk Tryz.prog En18 := sd18 e44 r18
theorem e42 : EnvOk Tryz.prog En42 := sd42 e18 r42
theorem e80 : EnvOk Tryz.prog En80 := sd80 e42 r80
theorem e44a : EnvOk Tryz.prog En44a := sd44a e80 r44a
theorem e79 : EnvOk Tryz.prog En79 := sd79 e44a r79
theorem e103 : EnvOk Tryz.prog En103 := sd103 e79 r103
theorem e104 : EnvOk Tryz.prog En104 := sd104 e103 r104
theorem e78 : EnvOk Tryz.prog En78 := sd78 e104 r78
theorem e81 : EnvOk Tryz.prog En81 := sd81 e78 r81
theorem e55 : EnvOk Tryz.prog En55 := sd55 e81 r55
theorem e34 : EnvOk Tryz.prog En34 := sd34 e55 r34
theorem e98 : EnvOk Tryz.prog En98 := sd98 e34 r98
theorem e72 : EnvOk Tryz.prog En72 := sd72 e98 r72
theorem e40 : EnvOk Tryz.prog En40 := sd40 e72 r40
theorem e11 : EnvOk Tryz.prog En11 := sd11 e40 r11
theorem e19 : EnvOk Tryz.prog En19 := sd19 e11 r19
theorem e17 : EnvOk Tryz.prog En17 := sd17 e19 r17
theorem e54 : EnvOk Tryz.prog En54 := sd54 e17 r54
theorem e33 : EnvOk Tryz.prog En33 := sd33 e54 r33
theorem e30 : EnvOk Tryz.prog En30 := sd30 e33 r30
theorem e31 : EnvOk Tryz.prog En31 := sd31 e30 r31
theorem e32 : EnvOk Tryz.prog En32 := sd32 e31 r32
theorem e8 : EnvOk Tryz.prog En8 := sd8 e32 r8
theorem e10 : EnvOk Tryz.prog En10 := sd10 e8 r10
theorem e13 : EnvOk Tryz.prog En13 := sd13 e10 r13
theorem e35 : EnvOk Tryz.prog En35 := sd35 e13 r35
theorem e99 : EnvOk Tryz.prog En99 := sd99 e35 r99
theorem e73 : EnvOk Tryz.prog En73 := sd73 e99 r73
theorem e43 : EnvOk Tryz.prog En43 := sd43 e73 r43
theorem e16 : EnvOk Tryz.prog En16 := sd16 e43 r16
theorem e22 : EnvOk Tryz.prog En22 := sd22 e16 r22
theorem lawSound : Sound Tryz.prog En22.gl 5 S5 := law e22 r5
end Go.Ev.Y

set_option linter.unusedSimpArgs false
set_option linter.unusedVariables false
namespace Go.Ev
open Go

/-! ### from a contract to a row -/
/-- A row of whole numbers in memory. -/
def IsRow (k : IntKind) (w : World) (a : Option Addr) (len cap : Nat) (zs : List Int) : Prop :=
  (a = none ∧ len = 0 ∧ cap = 0 ∧ zs = []) ∨
  ∃ x, a = some x ∧ len ≤ cap ∧ zs.length = cap ∧ (∀ i, i < zs.length → w.cell? (x.add i) = some (.int k (zs.getD i 0)))

/-- What is left as it was. -/
def Kept (W w' : World) : Prop := w'.os = W.os ∧ w'.output = W.output ∧ W.heap.size ≤ w'.heap.size ∧ ∀ b, b < W.heap.size → w'.heap[b]? = W.heap[b]?

theorem Kept.but {W w' : World} (h : Kept W w') (may : MemPlace → Prop) : W.keptBut w' may := by
  refine ⟨h.1, h.2.1, fun i hi => ?_⟩
  rw [h.2.2.2 i hi]
  split <;> simp_all

theorem Kept.same {W w' : World} (h : Kept W w') {p : MemPlace} (hp : p.block < W.heap.size) : W.sameAt w' p := by
  cases p with
  | cell b o => exact World.cell?_of_block (w := W) (h.2.2.2 b hp)
  | map b => exact h.2.2.2 b hp

theorem Kept.trod {H : Type} {enc : TypeId × Value → H} {P : Program} {t : TypeId} (hl : laidOutB P = true) (hr : P.readableRec t = true) (hrow : t < P.types.size) {W W' : World} {v : Value} {d : DataW H} {ps : List MemPlace}
    (h : DataW.Trod enc P W 0 (fun _ => true) true t v d ps) (hb : Kept W W') (hlt : ∀ x ∈ ps, x.block < W.heap.size) :
    DataW.Trod enc P W' 0 (fun b => decide (b < W.heap.size)) true t v d ps :=
  WideElems.Trod_stays hl hr hrow h (fun x hx => hb.same (hlt x hx)) (fun x hx => by simpa using hlt x hx)

theorem row_rel {W : World} {k : IntKind} {a : Option Addr} {len cap : Nat} {zs : List Int} (h : IsRow k W a len cap zs) :
    RelD (fun b => b < W.heap.size) W.heap (.slice (.int k)) (zs.take len) [.slice a len cap] := by
  rcases h with ⟨rfl, rfl, rfl, rfl⟩ | ⟨x, rfl, h1, h2, h3⟩
  · exact ⟨none, 0, rfl, by simp, fun i x hx => by simp at hx⟩
  · have hlen : (zs.take len).length = len := by rw [List.length_take]; omega
    refine ⟨some x, cap, by rw [hlen], by rw [hlen]; omega, fun i y hy => ?_⟩
    have hi : i < (zs.take len).length := (List.getElem?_eq_some_iff.1 hy).1
    rw [hlen] at hi
    have hc := h3 i (by omega)
    have hsp : x.spot = none := by
      have h4 := World.cell?_spot (h3 0 (by omega))
      rwa [show x.add 0 = x from if_pos rfl] at h4
    have hadd : x.add i = ⟨x.block, x.off + i, none⟩ := by
      obtain ⟨b, o, sp⟩ := x
      simp only at hsp
      subst hsp
      unfold Addr.add
      split
      · rename_i h0; simp [h0]
      · rfl
    rw [hadd, cell_at] at hc
    have hy2 : zs.getD i 0 = y := by
      rw [List.getElem?_take, if_pos hi] at hy
      rw [List.getD_eq_getElem?_getD, hy]; rfl
    refine ⟨x, rfl, hsp, ?_, [.int k y], rfl, fun j u hu => ?_⟩
    · unfold cellAt at hc
      split at hc
      · rename_i hb
        exact (Array.getElem?_eq_some_iff.1 hb).1
      · cases hc
    · have hj : j = 0 := by
        have := (List.getElem?_eq_some_iff.1 hu).1
        simpa using this
      subst hj
      simp at hu; subst hu
      rw [show (Tc.int k).size = 1 from rfl, Nat.mul_one, Nat.add_zero, hc, hy2]

/-- A law over numbers: it answers true, and leaves memory alone. -/
theorem law_calls {P : Program} {G : (Nat → Prop) → Array Obj → Prop} {f : FuncId} {s : Spec} (hs : Sound P G f s) {L : List Int} (hok : s.ok ⟨[.dat (.slice (.int .i64)) L], []⟩ = true) (hfn : s.fn ⟨[.dat (.slice (.int .i64)) L], []⟩ = some ⟨[.dat .bool true], []⟩)
    {W : World} {a : Option Addr} {len cap : Nat} (hG : G (fun b => b < W.heap.size) W.heap) (hr : RelD (fun b => b < W.heap.size) W.heap (.slice (.int .i64)) L [.slice a len cap]) :
    Calls P f #[.slice a len cap] W fun e w' => e = .returned (.bool true) ∧ Kept W w' := by
  have hcore : Core (Fr.reg ⟨[.dat (.slice (.int .i64)) L], []⟩) (fun _ => ⟨0, 0, 0, true, none⟩) (fun b => b < W.heap.size) W.heap :=
    ⟨fun k => trivial, fun k k' h => h.elim, fun k h => h.elim, fun b h => h⟩
  have hv : RelVs (view (Fr.reg ⟨[.dat (.slice (.int .i64)) L], []⟩) (fun _ => ⟨0, 0, 0, true, none⟩) (fun b => b < W.heap.size) W.heap) [.dat (.slice (.int .i64)) L] [.slice a len cap] :=
    ⟨_, _, rfl, hr, rfl⟩
  refine (hs _ _ hok hfn [.slice a len cap] W _ _ hcore hG hv).mono ?_
  rintro e w' ⟨u, rfl, hm, loc', S', hc, hle, hu⟩
  have hu' : [u] = [Value.bool true] := hu
  refine ⟨by simpa using hu', hm.1, hm.2, hc.keep.size, fun b hb => hc.keep.same b hb ?_⟩
  rintro ⟨k, hk, _⟩
  exact hk.elim
end Go.Ev
