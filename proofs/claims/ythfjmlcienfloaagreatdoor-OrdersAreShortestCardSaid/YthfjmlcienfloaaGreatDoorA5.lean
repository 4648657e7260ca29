import Derived.Test.YthfjmlcienfloaaGreatDoorA4
import Derived.Below
import Derived.Shelf.Small.Strs
import Derived.Shelf.Strings.SlTrimAscii
import Derived.Shelf.SlIter.Nil
import Derived.Shelf.SortM.Plain
import Derived.Shelf.SortM.SortNone
import Derived.Ground.GgzProg
import Derived.Ground.SlgmProg
import Derived.Test.YthfjmlcienfloaaGreatDoorProg
import Derived.Lib.SmallJoins
import Derived.Lib.LaidTab
import Derived.Shelf.Strconv.Itoa3
import Derived.Shelf.Strconv.Atoi
import Derived.Shelf.Sort.Plain
import Derived.Sort.LoopGhostIn
import Derived.Sort.KeysCollected
set_option linter.unusedVariables false
set_option linter.unusedSimpArgs false
namespace Go.Ev.X
open Go Go.Ev Go.Proofs
theorem checkItems_len {key : Bytes → Bool} {l : List Item} (h : checkItems key l = 0) : l.length ≤ 60 := by
  unfold checkItems at h
  cases h2 : decide ((l.length : Int) > 60) with
  | true => rw [h2] at h; simp at h
  | false =>
    have : ¬ (l.length : Int) > 60 := by simpa using h2
    omega

theorem checkProg_items {key : Bytes → Bool} {p : Prgm} (h : checkProg key p = 0) : checkItems key p.1 = 0 := by
  unfold checkProg at h
  cases h2 : checkItems key p.1 != 0 with
  | true => rw [h2, cond_true] at h; exact h
  | false => simpa using h2

theorem eta_p (p : Prgm) : (p.1, (p.2.1, (p.2.2.1, (p.2.2.2.1, p.2.2.2.2)))) = p := rfl

theorem begGo_len (p : Prgm) : ∀ (l : List Item) (i a : Int), (begGo p i a l).1.length = l.length
  | [], _, _ => rfl
  | [x], _, _ => rfl
  | x :: y :: l, i, a => by
    have := begGo_len p (y :: l) (i + 1) (wrap .i64 (wrap .i64 (a + x.2.2.1) + gapAt p i x y))
    simp only [begGo, List.length_cons] at this ⊢
    omega

theorem timGo_len (p : Prgm) : ∀ (l : List Item) (i a : Int), (timGo p i a l).length = l.length
  | [], _, _ => rfl
  | [x], _, _ => rfl
  | x :: y :: l, i, a => by
    have := timGo_len p (y :: l) (i + 1) (wrap .i64 (wrap .i64 (a + x.2.2.1) + gapAt p i x y))
    simp only [timGo, List.length_cons] at this ⊢
    omega

theorem fromF_prog {p : Prgm} {f : Int} (h : fromF p f = 0) : checkProg isKey p = 0 := by
  unfold fromF at h
  cases h2 : checkProg isKey p != 0 with
  | true => rw [h2, cond_true] at h; exact h
  | false => simpa using h2

theorem r11 : R11 := by
  intro a0 _
  rw [f11_run, eta_p]
  unfold longP
  cases h : checkProg isKey a0 != 0 with
  | true => rfl
  | false =>
    have h0 : checkProg isKey a0 = 0 := by simpa using h
    have := checkItems_len (checkProg_items h0)
    rw [dT (p := a0.1.length ≤ 1000) (by omega)]
    rfl

theorem beq_comm' (x y : Bytes) : (x == y) = (y == x) := by
  by_cases h : x = y
  · subst h; rfl
  · have h' : ¬ y = x := fun e => h e.symm
    rw [beq_eq_false_iff_ne.2 h, beq_eq_false_iff_ne.2 h']

theorem beq_timed (x y : Timed) : Tc.beq tTimed x y = (x == y) := rfl


end Go.Ev.X

set_option linter.unusedVariables false
namespace Go.Ev
open Go Go.RowKit

theorem pure_sound {P : Program} {G : (Nat → Prop) → Array Obj → Prop} {f : FuncId} {md : List Bool} {ts : List Tc} {ok : Tup ts → Bool} {pat : Fr} {out : Tup ts → FV}
    (hp : ∀ x, fillF pat (undats ts x) = ⟨undats ts x, []⟩) (hr : ∀ x, resFV [out x] = out x)
    (h : ∀ x, ok x = true → ∀ (w : World) (V : Vw) (vals : List Value), V.h = w.heap → G V.S w.heap → RelVs V (undats ts x) vals →
      Calls P f vals.toArray w fun e w' => ∃ u, e = .returned u ∧ RowKit.Below w.heap.size w w' ∧ ∀ V', RelV V' (out x) u) :
    Sound P G f (genS md false pat ts ok (fun x => ⟨[out x], []⟩)) := by
  refine gen_of (P := P) (G := G) (f := f) (fun pk o => ∀ (vals : List Value) (w : World) (loc : Nat → Loc) (S : Nat → Prop), Core pk.reg loc S w.heap → G S w.heap →
    RelVs (view pk.reg loc S w.heap) pk.slots vals →
    Calls P f vals.toArray w fun e w' => ∃ u, e = .returned u ∧ Sm w w' ∧ ∃ loc' S', Ctx (entOf pk loc S w.heap) o.reg loc' S' w'.heap ∧
      (view pk.reg loc S w.heap).le (view o.reg loc' S' w'.heap) ∧ RelV (view o.reg loc' S' w'.heap) (resFV o.slots) u) ?_
  intro x hx vals w loc S hc hg hv
  rw [hp] at hc hv ⊢
  refine (h x hx w (view (Fr.reg ⟨undats ts x, []⟩) loc S w.heap) vals rfl hg hv).mono ?_
  rintro e w' ⟨u, rfl, hb, hu⟩
  refine ⟨u, rfl, ⟨hb.os, hb.output⟩, loc, S, ⟨⟨fun _ => trivial, fun _ _ h => h.elim, fun _ h => h.elim, fun b hb' => Nat.lt_of_lt_of_le (hc.bS b hb') hb.size⟩,
    ⟨hb.size, fun b hb' _ => hb.block b hb', fun _ h => h, fun _ h => .inl h, fun _ h => h.elim, fun _ _ ⟨_, h, _⟩ => h.elim, hc.bS, fun _ h => by cases h⟩⟩,
    ⟨fun _ _ h => h.elim, fun _ _ _ h => h.elim, fun _ _ _ _ h => h.elim, fun _ _ h => h.elim, fun b hb' => ⟨hb', hb.block b (hc.bS b hb')⟩⟩, ?_⟩
  rw [hr]; exact hu _

theorem enters_plain {P : Program} {f : FuncId} {fn : Func} (hf : P.funcs[f]? = some fn) {b : _} (hb : fn.body = some b) (hn : (fn.name == "runtime.NumGoroutine") = false) : Enters P f :=
  enters_of hf hb hn
end Go.Ev

/-
  DERIVED: THE SHELF's CONTRACTS AT THIS DUMP, IN PLAIN WORDS (tools/lay-plain.mjs out of 'GleeQs.lean', which tools/lay-shelf.mjs wrote): THE SAME DECLARATIONS UNDER THE SAME NAMES: 'import', 'namespace', 'open', 'def', 'theorem' AND NOTHING ELSE: no command of the shelf's: FOR A HAND-IN. Each laying: the table of numbers ('.._ren') and one theorem, a field a fact of the dump's own or the kernel's comparison; each contract: ONE APPLICATION.
-/
namespace Go.Proofs
open Go.Shelf
def Tryz.lays137_ren : Go.Shelf.Ren := ⟨fun | 137 => 103 | 217 => 120 | 266 => 150 | n => n, fun | 9 => 9 | 5 => 5 | 3 => 3 | n => n, fun | n => n⟩
theorem Tryz.lays137 : Go.Proofs.Lays.n137 Tryz.prog Tryz.lays137_ren := {
  mixed := by kernel_rfl
  f137 := Tryz.func103.trans (congrArg some (by kernel_rfl))
  f217 := Tryz.func120.trans (congrArg some (by kernel_rfl))
  f266 := Tryz.func150.trans (congrArg some (by kernel_rfl))
  t3 := Tryz.underlying3
  a3 := Tryz.isAgg3
  z3 := Tryz.sizeOf3
  v3 := Tryz.zeroValue3
  t5 := Tryz.underlying5
  a5 := Tryz.isAgg5
  z5 := Tryz.sizeOf5
  v5 := Tryz.zeroValue5
  t9 := Tryz.underlying9
  a9 := Tryz.isAgg9
  z9 := Tryz.sizeOf9
  v9 := Tryz.zeroValue9 }
def Tryz.lays160_ren : Go.Shelf.Ren := ⟨fun | 160 => 104 | 232 => 122 | 231 => 121 | 227 => 123 | 234 => 125 | 233 => 124 | 236 => 127 | 235 => 126 | 228 => 151 | 271 => 154 | 151 => 153 | 197 => 152 | 120 => 170 | 152 => 169 | 260 => 168 | 137 => 103 | 119 => 175 | 224 => 176 | 225 => 177 | 217 => 120 | 266 => 150 | n => n, fun | 9 => 9 | 4 => 4 | 3 => 3 | 5 => 5 | 117 => 175 | 116 => 174 | 0 => 0 | 124 => 178 | 21 => 21 | 105 => 209 | 46 => 164 | 119 => 230 | 139 => 233 | 138 => 232 | n => n, fun | 3 => 2 | 4 => 3 | n => n⟩
theorem Tryz.lays160 : Go.Proofs.Lays.n160 Tryz.prog Tryz.lays160_ren := {
  mixed := by kernel_rfl
  f119 := Tryz.func175.trans (congrArg some (by kernel_rfl))
  f120 := Tryz.func170.trans (congrArg some (by kernel_rfl))
  f137 := Tryz.func103.trans (congrArg some (by kernel_rfl))
  f151 := Tryz.func153.trans (congrArg some (by kernel_rfl))
  f152 := Tryz.func169.trans (congrArg some (by kernel_rfl))
  f160 := Tryz.func104.trans (congrArg some (by kernel_rfl))
  f197 := Tryz.func152.trans (congrArg some (by kernel_rfl))
  f217 := Tryz.func120.trans (congrArg some (by kernel_rfl))
  f224 := Tryz.func176.trans (congrArg some (by kernel_rfl))
  f225 := Tryz.func177.trans (congrArg some (by kernel_rfl))
  f227 := Tryz.func123.trans (congrArg some (by kernel_rfl))
  f228 := Tryz.func151.trans (congrArg some (by kernel_rfl))
  f231 := Tryz.func121.trans (congrArg some (by kernel_rfl))
  f232 := Tryz.func122.trans (congrArg some (by kernel_rfl))
  f233 := Tryz.func124.trans (congrArg some (by kernel_rfl))
  f234 := Tryz.func125.trans (congrArg some (by kernel_rfl))
  f235 := Tryz.func126.trans (congrArg some (by kernel_rfl))
  f236 := Tryz.func127.trans (congrArg some (by kernel_rfl))
  f260 := Tryz.func168.trans (congrArg some (by kernel_rfl))
  f266 := Tryz.func150.trans (congrArg some (by kernel_rfl))
  f271 := Tryz.func154.trans (congrArg some (by kernel_rfl))
  t0 := Tryz.underlying0
  a0 := Tryz.isAgg0
  z0 := Tryz.sizeOf0
  v0 := Tryz.zeroValue0
  t3 := Tryz.underlying3
  a3 := Tryz.isAgg3
  z3 := Tryz.sizeOf3
  v3 := Tryz.zeroValue3
  t4 := Tryz.underlying4
  a4 := Tryz.isAgg4
  z4 := Tryz.sizeOf4
  v4 := Tryz.zeroValue4
  t5 := Tryz.underlying5
  a5 := Tryz.isAgg5
  z5 := Tryz.sizeOf5
  v5 := Tryz.zeroValue5
  t9 := Tryz.underlying9
  a9 := Tryz.isAgg9
  z9 := Tryz.sizeOf9
  v9 := Tryz.zeroValue9
  t21 := Tryz.underlying21
  a21 := Tryz.isAgg21
  z21 := Tryz.sizeOf21
  v21 := Tryz.zeroValue21
  t46 := Tryz.underlying164
  a46 := Tryz.isAgg164
  z46 := Tryz.sizeOf164
  v46 := Tryz.zeroValue164
  t105 := Tryz.underlying209
  a105 := Tryz.isAgg209
  z105 := Tryz.sizeOf209
  v105 := Tryz.zeroValue209
  t116 := Tryz.underlying174
  a116 := Tryz.isAgg174
  z116 := Tryz.sizeOf174
  t117 := Tryz.underlying175
  a117 := Tryz.isAgg175
  z117 := Tryz.sizeOf175
  v117 := Tryz.zeroValue175
  t119 := Tryz.underlying230
  a119 := Tryz.isAgg230
  z119 := Tryz.sizeOf230
  t124 := Tryz.underlying178
  a124 := Tryz.isAgg178
  z124 := Tryz.sizeOf178
  v124 := Tryz.zeroValue178
  t138 := Tryz.underlying232
  a138 := Tryz.isAgg232
  z138 := Tryz.sizeOf232
  v138 := Tryz.zeroValue232
  t139 := Tryz.underlying233
  a139 := Tryz.isAgg233
  z139 := Tryz.sizeOf233
  v139 := Tryz.zeroValue233
  g3 := by kernel_rfl
  g4 := by kernel_rfl }
def Tryz.keys69_ren : Go.Shelf.Ren := ⟨fun | 7 => 69 | 10 => 93 | n => n, fun | 23 => 113 | 26 => 9 | 3 => 4 | 28 => 122 | 0 => 0 | 27 => 121 | 33 => 130 | 4 => 4 | n => n, fun | n => n⟩
theorem Tryz.keys69 : Go.Proofs.SlLaysZ.n7 Tryz.prog Tryz.keys69_ren := {
  mixed := by kernel_rfl
  f7 := ⟨Tryz.f69.name, by decide, Tryz.func69.trans (congrArg some (by kernel_rfl))⟩
  f10 := ⟨Tryz.f93.name, by decide, Tryz.func93.trans (congrArg some (by kernel_rfl))⟩
  t0 := Tryz.underlying0
  a0 := Tryz.isAgg0
  z0 := Tryz.sizeOf0
  v0 := Tryz.zeroValue0
  t4 := Tryz.underlying4
  a4 := Tryz.isAgg4
  z4 := Tryz.sizeOf4
  v4 := Tryz.zeroValue4
  t23 := Tryz.underlying113
  a23 := Tryz.isAgg113
  z23 := Tryz.sizeOf113
  v23 := Tryz.zeroValue113
  t26 := Tryz.underlying9
  a26 := Tryz.isAgg9
  z26 := Tryz.sizeOf9
  v26 := Tryz.zeroValue9
  t27 := Tryz.underlying121
  a27 := Tryz.isAgg121
  z27 := Tryz.sizeOf121
  v27 := Tryz.zeroValue121
  t28 := Tryz.underlying122
  a28 := Tryz.isAgg122
  z28 := Tryz.sizeOf122
  v28 := Tryz.zeroValue122
  t33 := Tryz.underlying130
  a33 := Tryz.isAgg130
  z33 := Tryz.sizeOf130
  v33 := Tryz.zeroValue130 }
def Tryz.keys96_ren : Go.Shelf.Ren := ⟨fun | 7 => 96 | 10 => 117 | n => n, fun | 23 => 145 | 26 => 9 | 3 => 146 | 28 => 122 | 0 => 0 | 27 => 121 | 33 => 130 | 4 => 4 | n => n, fun | n => n⟩
theorem Tryz.keys96 : Go.Proofs.SlLaysZ.n7 Tryz.prog Tryz.keys96_ren := {
  mixed := by kernel_rfl
  f7 := ⟨Tryz.f96.name, by decide, Tryz.func96.trans (congrArg some (by kernel_rfl))⟩
  f10 := ⟨Tryz.f117.name, by decide, Tryz.func117.trans (congrArg some (by kernel_rfl))⟩
  t0 := Tryz.underlying0
  a0 := Tryz.isAgg0
  z0 := Tryz.sizeOf0
  v0 := Tryz.zeroValue0
  t4 := Tryz.underlying4
  a4 := Tryz.isAgg4
  z4 := Tryz.sizeOf4
  v4 := Tryz.zeroValue4
  t23 := Tryz.underlying145
  a23 := Tryz.isAgg145
  z23 := Tryz.sizeOf145
  v23 := Tryz.zeroValue145
  t26 := Tryz.underlying9
  a26 := Tryz.isAgg9
  z26 := Tryz.sizeOf9
  v26 := Tryz.zeroValue9
  t27 := Tryz.underlying121
  a27 := Tryz.isAgg121
  z27 := Tryz.sizeOf121
  v27 := Tryz.zeroValue121
  t28 := Tryz.underlying122
  a28 := Tryz.isAgg122
  z28 := Tryz.sizeOf122
  v28 := Tryz.zeroValue122
  t33 := Tryz.underlying130
  a33 := Tryz.isAgg130
  z33 := Tryz.sizeOf130
  v33 := Tryz.zeroValue130 }
def Tryz.sorted68_ren : Go.Shelf.Ren := ⟨fun | 6 => 68 | 8 => 91 | 9 => 92 | 11 => 110 | 13 => 112 | 12 => 111 | 23 => 143 | 24 => 144 | 14 => 134 | 15 => 135 | 16 => 136 | 17 => 137 | 18 => 138 | 19 => 139 | 20 => 140 | 21 => 141 | 22 => 142 | 25 => 161 | 26 => 162 | 27 => 163 | 28 => 164 | 29 => 165 | 30 => 119 | 31 => 174 | n => n, fun | 26 => 9 | 28 => 122 | 24 => 46 | 0 => 0 | 3 => 3 | 37 => 164 | 48 => 195 | 50 => 180 | 4 => 4 | 40 => 188 | 39 => 187 | 45 => 139 | 5 => 5 | 9 => 9 | 51 => 215 | 55 => 219 | 57 => 227 | 58 => 228 | 33 => 130 | n => n, fun | n => n⟩
theorem Tryz.sorted68 : Go.Proofs.SlLaysZ.n6 Tryz.prog Tryz.sorted68_ren := {
  mixed := by kernel_rfl
  f6 := ⟨Tryz.f68.name, by decide, Tryz.func68.trans (congrArg some (by kernel_rfl))⟩
  f8 := ⟨Tryz.f91.name, by decide, Tryz.func91.trans (congrArg some (by kernel_rfl))⟩
  f11 := ⟨Tryz.f110.name, by decide, Tryz.func110.trans (congrArg some (by kernel_rfl))⟩
  t0 := Tryz.underlying0
  a0 := Tryz.isAgg0
  z0 := Tryz.sizeOf0
  v0 := Tryz.zeroValue0
  t24 := Tryz.underlying46
  a24 := Tryz.isAgg46
  z24 := Tryz.sizeOf46
  v24 := Tryz.zeroValue46
  t26 := Tryz.underlying9
  a26 := Tryz.isAgg9
  z26 := Tryz.sizeOf9
  v26 := Tryz.zeroValue9
  t28 := Tryz.underlying122
  a28 := Tryz.isAgg122
  z28 := Tryz.sizeOf122
  v28 := Tryz.zeroValue122
  i26 := by kernel_rfl }
def Tryz.sort92_ren : Go.Shelf.Ren := ⟨fun | 6 => 92 | 8 => 112 | 9 => 111 | 19 => 143 | 20 => 144 | 21 => 134 | 22 => 135 | 23 => 136 | 24 => 137 | 25 => 138 | 26 => 139 | 27 => 140 | 28 => 141 | 29 => 142 | 36 => 161 | 31 => 162 | 32 => 163 | 37 => 164 | 38 => 165 | 39 => 119 | 41 => 174 | n => n, fun | 27 => 46 | 29 => 9 | 3 => 3 | 32 => 164 | 26 => 46 | 0 => 0 | 44 => 195 | 46 => 180 | 4 => 4 | 36 => 188 | 35 => 187 | 41 => 139 | 5 => 5 | 9 => 9 | 53 => 215 | 57 => 219 | 63 => 227 | 64 => 228 | n => n, fun | n => n⟩
theorem Tryz.sort92 : Go.Proofs.SlLaysM.n6 Tryz.prog Tryz.sort92_ren := {
  mixed := by kernel_rfl
  f6 := ⟨Tryz.f92.name, by decide, Tryz.func92.trans (congrArg some (by kernel_rfl))⟩
  f8 := Tryz.func112.trans (congrArg some (by kernel_rfl))
  f9 := ⟨Tryz.f111.name, by decide, Tryz.func111.trans (congrArg some (by kernel_rfl))⟩
  f19 := Tryz.func143.trans (congrArg some (by kernel_rfl))
  f20 := Tryz.func144.trans (congrArg some (by kernel_rfl))
  f21 := ⟨Tryz.f134.name, by decide, Tryz.func134.trans (congrArg some (by kernel_rfl))⟩
  f22 := ⟨Tryz.f135.name, by decide, Tryz.func135.trans (congrArg some (by kernel_rfl))⟩
  f23 := ⟨Tryz.f136.name, by decide, Tryz.func136.trans (congrArg some (by kernel_rfl))⟩
  f24 := ⟨Tryz.f137.name, by decide, Tryz.func137.trans (congrArg some (by kernel_rfl))⟩
  f25 := ⟨Tryz.f138.name, by decide, Tryz.func138.trans (congrArg some (by kernel_rfl))⟩
  f26 := ⟨Tryz.f139.name, by decide, Tryz.func139.trans (congrArg some (by kernel_rfl))⟩
  f27 := ⟨Tryz.f140.name, by decide, Tryz.func140.trans (congrArg some (by kernel_rfl))⟩
  f28 := ⟨Tryz.f141.name, by decide, Tryz.func141.trans (congrArg some (by kernel_rfl))⟩
  f29 := ⟨Tryz.f142.name, by decide, Tryz.func142.trans (congrArg some (by kernel_rfl))⟩
  f31 := Tryz.func162.trans (congrArg some (by kernel_rfl))
  f32 := Tryz.func163.trans (congrArg some (by kernel_rfl))
  f36 := ⟨Tryz.f161.name, by decide, Tryz.func161.trans (congrArg some (by kernel_rfl))⟩
  f37 := ⟨Tryz.f164.name, by decide, Tryz.func164.trans (congrArg some (by kernel_rfl))⟩
  f38 := ⟨Tryz.f165.name, by decide, Tryz.func165.trans (congrArg some (by kernel_rfl))⟩
  f39 := ⟨Tryz.f119.name, by decide, Tryz.func119.trans (congrArg some (by kernel_rfl))⟩
  f41 := ⟨Tryz.f174.name, by decide, Tryz.func174.trans (congrArg some (by kernel_rfl))⟩
  t0 := Tryz.underlying0
  a0 := Tryz.isAgg0
  z0 := Tryz.sizeOf0
  v0 := Tryz.zeroValue0
  t3 := Tryz.underlying3
  a3 := Tryz.isAgg3
  z3 := Tryz.sizeOf3
  v3 := Tryz.zeroValue3
  t4 := Tryz.underlying4
  a4 := Tryz.isAgg4
  z4 := Tryz.sizeOf4
  v4 := Tryz.zeroValue4
  t5 := Tryz.underlying5
  a5 := Tryz.isAgg5
  z5 := Tryz.sizeOf5
  v5 := Tryz.zeroValue5
  t9 := Tryz.underlying9
  a9 := Tryz.isAgg9
  z9 := Tryz.sizeOf9
  v9 := Tryz.zeroValue9
  t26 := Tryz.underlying46
  a26 := Tryz.isAgg46
  z26 := Tryz.sizeOf46
  v26 := Tryz.zeroValue46
  t27 := Tryz.underlying46
  a27 := Tryz.isAgg46
  z27 := Tryz.sizeOf46
  v27 := Tryz.zeroValue46
  t29 := Tryz.underlying9
  a29 := Tryz.isAgg9
  z29 := Tryz.sizeOf9
  v29 := Tryz.zeroValue9
  t32 := Tryz.underlying164
  a32 := Tryz.isAgg164
  z32 := Tryz.sizeOf164
  v32 := Tryz.zeroValue164
  t35 := Tryz.underlying187
  a35 := Tryz.isAgg187
  z35 := Tryz.sizeOf187
  v35 := Tryz.zeroValue187
  t36 := Tryz.underlying188
  a36 := Tryz.isAgg188
  z36 := Tryz.sizeOf188
  v36 := Tryz.zeroValue188
  t41 := Tryz.underlying139
  a41 := Tryz.isAgg139
  z41 := Tryz.sizeOf139
  v41 := Tryz.zeroValue139
  t44 := Tryz.underlying195
  a44 := Tryz.isAgg195
  z44 := Tryz.sizeOf195
  v44 := Tryz.zeroValue195
  t46 := Tryz.underlying180
  a46 := Tryz.isAgg180
  z46 := Tryz.sizeOf180
  v46 := Tryz.zeroValue180
  t53 := Tryz.underlying215
  a53 := Tryz.isAgg215
  z53 := Tryz.sizeOf215
  v53 := Tryz.zeroValue215
  t57 := Tryz.underlying219
  a57 := Tryz.isAgg219
  z57 := Tryz.sizeOf219
  v57 := Tryz.zeroValue219
  t63 := Tryz.underlying227
  a63 := Tryz.isAgg227
  z63 := Tryz.sizeOf227
  v63 := Tryz.zeroValue227
  t64 := Tryz.underlying228
  a64 := Tryz.isAgg228
  z64 := Tryz.sizeOf228
  v64 := Tryz.zeroValue228 }
end Go.Proofs

set_option linter.unusedVariables false
set_option linter.unusedSimpArgs false
namespace Go.Ev.X
open Go Go.Ev Go.Proofs
theorem r103 : R103 := by
  refine ⟨pure_sound (P := Tryz.prog) (G := En0.gl) (ts := [.str, .int .u8]) (out := fun x => .dat tI (indexB x.1 x.2.1)) (fun _ => rfl) (fun _ => rfl) ?_, enters_of Tryz.func103 rfl rfl⟩
  rintro ⟨s, c, _⟩ _ w V vals hV _ ⟨u1, us, rfl, h1, u2, us', rfl, h2, rfl⟩
  cases h1
  cases h2
  refine (Any.strings_IndexByte Tryz.lays137 ⟨List.toArray s⟩ c w).mono ?_
  rintro e w' ⟨rfl, rfl⟩
  exact ⟨_, rfl, RowKit.Below.refl _ _, fun _ => rfl⟩

theorem r104 : R104 := by
  refine ⟨pure_sound (P := Tryz.prog) (G := En0.gl) (ts := [.str, .str]) (out := fun x => .dat .str (trimB x.1 x.2.1)) (fun _ => rfl) (fun _ => rfl) ?_, enters_of Tryz.func104 rfl rfl⟩
  rintro ⟨s, c, _⟩ hok w V vals hV _ ⟨u1, us, rfl, h1, u2, us', rfl, h2, rfl⟩
  cases h1
  cases h2
  have hok' : (decide (List.length s ≤ 1000000) && decide (List.length c ≤ 1000) && c.all fun b => decide (b.toNat < 128)) = true := hok
  simp only [Bool.and_eq_true, decide_eq_true_eq] at hok'
  obtain ⟨⟨h1, h2⟩, h3⟩ := hok'
  refine (Any.strings_Trim_laid Tryz.lays160 (by kernel_rfl) ⟨List.toArray s⟩ ⟨List.toArray c⟩ w (by show (List.toArray s).size ≤ _; simp; omega) (by show (List.toArray c).size < _; simp; omega) (ascii_of_all h3)).mono ?_
  rintro e w' ⟨rfl, hb⟩
  exact ⟨_, rfl, hb, fun _ => rfl⟩

theorem indexByte_mem (b : UInt8) : ∀ (l : Bytes), decide (Lib.indexByte l b < 0) = !l.contains b
  | [] => rfl
  | x :: l => by
    have ih := indexByte_mem b l
    have hg := Lib.indexByte_ge l b
    unfold Lib.indexByte
    by_cases h : x = b
    · subst h; simp
    · have h1 : (x == b) = false := beq_eq_false_iff_ne.2 h
      have h2 : (b == x) = false := beq_eq_false_iff_ne.2 (fun e => h e.symm)
      rw [h1]
      simp only [List.contains_cons, h2, Bool.false_or, Bool.false_eq_true, if_false]
      rw [← ih]
      by_cases h3 : Lib.indexByte l b = -1
      · rw [h3]; rfl
      · have h4 : (Lib.indexByte l b == -1) = false := beq_eq_false_iff_ne.2 h3
        rw [h4]
        simp only [Bool.false_eq_true, if_false]
        rw [dF (by omega), dF (by omega)]

theorem toU (b : UInt8) : (Int.toNat ((b.toNat : Nat) : Int)).toUInt8 = b := by
  show (b.toNat).toUInt8 = b
  exact UInt8.ofNat_toNat

theorem only_all (s cs : Bytes) : onlyB s cs = s.all fun b => cs.contains b := by
  unfold onlyB
  congr 1
  funext b
  unfold indexB
  rw [toU, indexByte_mem, Bool.not_not]

theorem dw_nil {α : Type} (p : α → Bool) : ∀ (l : List α), l.dropWhile p = [] ↔ ∀ x ∈ l, p x = true
  | [] => by simp
  | x :: l => by
    rw [List.dropWhile_cons]
    cases h : p x with
    | true => simp [h, dw_nil p l]
    | false => simp [h]

theorem trim_nil (s cs : Bytes) : (trimB s cs == []) = s.all fun b => cs.contains b := by
  unfold trimB Lib.trimS Lib.trimLeftS Lib.trimRightS
  rw [Bool.eq_iff_iff, beq_iff_eq, dw_nil, List.all_eq_true]
  constructor
  · intro h
    -- a byte beyond the set would stay
    have h' : ∀ x ∈ s.reverse.dropWhile (fun b => cs.contains b), cs.contains x = true := fun x hx => h x (by simpa using hx)
    have h2 : s.reverse.dropWhile (fun b => cs.contains b) = [] := by
      cases hd : s.reverse.dropWhile (fun b => cs.contains b) with
      | nil => rfl
      | cons x l =>
        have := List.head?_dropWhile_not (fun b => cs.contains b) s.reverse
        rw [hd] at this h'
        simp only [List.head?_cons] at this
        have h3 := h' x (List.mem_cons_self ..)
        simp only [h3] at this
        simp at this
    rw [dw_nil] at h2
    exact fun x hx => h2 x (by simpa using hx)
  · intro h x hx
    have := (List.dropWhile_sublist (fun b => cs.contains b) (l := s.reverse)).subset (by simpa using hx)
    exact h x (by simpa using this)

theorem isKey_eq (s : Bytes) : isKey s = keyR s := by
  unfold isKey keyR
  rw [trim_nil, only_all, only_all]
  cases s with
  | nil => rfl
  | cons x l =>
    have e1 : (!((x :: l : Bytes) == [])) = true := rfl
    have e2 : inR ((x :: l : Bytes).length : Int) 1 40 = decide (((x :: l : Bytes).length : Int) ≤ 40) := by
      unfold inR
      rw [dT (p := (1 : Int) ≤ ((x :: l : Bytes).length : Int)) (by simp; omega), Bool.true_and]
    have e3 : ((x :: l : Bytes).getD 0 0) = x := rfl
    have e4 : (x :: l : Bytes).take 1 = [x] := rfl
    have e5 : decide (indexB smallsB ((x.toNat : Nat) : Int) ≥ 0) = smallsB.contains x := by
      unfold indexB
      rw [toU]
      have := indexByte_mem x smallsB
      by_cases h : Lib.indexByte smallsB x < 0
      · rw [dT h] at this
        rw [dF (by omega)]
        cases hc : smallsB.contains x <;> rw [hc] at this <;> first | rfl | cases this
      · rw [dF h] at this
        rw [dT (by omega)]
        cases hc : smallsB.contains x <;> rw [hc] at this <;> first | rfl | cases this
    rw [e1, e2, e3, e4, e5, Bool.true_and]
    simp only [List.all_cons, List.all_nil, Bool.and_true]

theorem isKey_fun : isKey = keyR := funext isKey_eq


end Go.Ev.X

set_option linter.unusedVariables false
set_option linter.unusedSimpArgs false
namespace Go.Ev.X
open Go Go.Ev Go.Proofs
def itemOkB (x : Item) : Bool := isKey x.1 && (isKey x.2.1 && (!outside x.2.2.1 1 86400000 && (partsF isKey x.2.2.2 == 0)))

theorem itemsGo_ok : ∀ (l pre : List Item), (∀ x ∈ l, itemOkB x = true) → ((pre ++ l).map fun x => x.1).Nodup → itemsGo isKey pre l = 0
  | [], pre, _, _ => rfl
  | x :: l, pre, h, hn => by
    have hx := h x List.mem_cons_self
    simp only [itemOkB, Bool.and_eq_true, Bool.not_eq_true', beq_iff_eq] at hx
    obtain ⟨h1, h2, h3, h4⟩ := hx
    have hany : (pre.any fun o => o.1 == x.1) = false := by
      rw [List.any_eq_false]
      intro o ho e
      have e' : o.1 = x.1 := by simpa using e
      rw [List.map_append, List.nodup_append] at hn
      exact hn.2.2 o.1 (List.mem_map_of_mem ho) x.1 (by simp) e'
    have hr := itemsGo_ok l (pre ++ [x]) (fun y hy => h y (List.mem_cons_of_mem _ hy)) (by simpa using hn)
    simp only [itemsGo, h1, h2, hany, h3, h4, Bool.not_true, Bool.or_self, cond_false]
    exact hr

theorem checkProg_ok (p : Prgm) (hl : p.1.length ≤ 5) (hi : ∀ x ∈ p.1, itemOkB x = true) (hn : (p.1.map fun x => x.1).Nodup) (h1 : outside p.2.1 0 86400000 = false) (h2 : outside p.2.2.1 0 86400000 = false) (h3 : outside p.2.2.2.1 0 86400000 = false)
    (h4 : outside p.2.2.2.2 (-1) (mx (-1) (wrap .i64 ((p.1.length : Int) - 2))) = false) : checkProg isKey p = 0 := by
  have hc : checkItems isKey p.1 = 0 := by
    unfold checkItems
    rw [dF (by omega), cond_false]
    exact itemsGo_ok p.1 [] hi (by simpa using hn)
  unfold checkProg
  rw [hc, h1, h2, h3, h4]; rfl

/-- All lists that leave some of a list out. -/
def subsG (l : List Bytes) : List (List Bytes) := l.foldl (fun s x => s ++ s.map fun p => p ++ [x]) [[]]

theorem subsG_snoc (l : List Bytes) (x : Bytes) : subsG (l ++ [x]) = subsG l ++ (subsG l).map fun p => p ++ [x] := by simp [subsG, List.foldl_append]

def partsL : List Bytes := [[97, 108, 116, 111], [98, 97, 115, 115], [115, 111, 108, 105]]

theorem parts_good : (subsG partsL).all (fun p => p.isEmpty || (partsF isKey p == 0 && Nat.ble p.length 3)) = true := by kernel_rfl
theorem places_good : ([[114, 111, 119, 115], [114, 111, 119, 115], [99, 105, 114, 99, 108, 101]] : List Bytes).all isKey = true := by kernel_rfl
theorem keys_good : ([[99], [97], [100], [98], [101]] : List Bytes).all isKey = true := by kernel_rfl
theorem alto_good : (partsF isKey [[97, 108, 116, 111]] == 0) = true := by kernel_rfl
theorem longs_good : ([(50 : Int), (100 : Int), (100 : Int), (200 : Int)]).all (fun n => !outside n 1 86400000) = true := by kernel_rfl

theorem getD_in {α : Type} (l : List α) (d : α) {i : Int} (h0 : 0 ≤ i) (h : i < (l.length : Int)) : l.getD i.toNat d ∈ l := by
  have : i.toNat < l.length := by omega
  rw [List.getD_eq_getElem?_getD, List.getElem?_eq_getElem this]
  exact List.getElem_mem this

theorem pick_in (L : List Int) (a : Int) (l : List Int) (h : 1 ≤ l.length) (h2 : l.length ≤ 1000) : pick L a l ∈ l := by
  obtain ⟨q1, q2⟩ := next_range L a (n := l.length) (by omega) (by omega)
  exact getD_in l _ q1 q2
theorem some_in (L : List Int) (a : Int) (l : List Bytes) (h : 1 ≤ l.length) (h2 : l.length ≤ 1000) : some_ L a l ∈ l := by
  obtain ⟨q1, q2⟩ := next_range L a (n := l.length) (by omega) (by omega)
  exact getD_in l _ q1 q2

def QRp (L : List Int) (a b : Int) (f : Fr) : Prop := ∃ (a' : Int) (items : List Item) (p q r s : Int),
  f = ⟨[.agg [.slc 2, .dat tI p, .dat tI q, .dat tI r, .dat tI s]], [(0, .box [.dat (.slice tI) L, .dat tI a']), (2, .arr tItem items)]⟩ ∧ a ≤ a' ∧ a' ≤ b ∧ items.length ≤ 5 ∧ (∀ x ∈ items, x.2.2.2.length ≤ 5) ∧ checkProg isKey (items, (p, (q, (r, s)))) = 0

theorem rp2 (x0 : List Bytes) (x1 x2 : Int) (L : List Int) (z1 z2 z3 z4 p q r s : Int) (n g : Bytes) (lg : Int) (nl : List Bytes) (hn : nl.length ≤ 3) (items : List Item) (hi : items.length ≤ 4) : ∀ (m k : Nat) (a : Int) (parts : List Bytes),
    k + m = nl.length → 0 ≤ a → a + m ≤ 1099511627776 → parts.length ≤ k → parts ∈ subsG (nl.take k) →
    ∃ (a' : Int) (pt : List Bytes), f8h2 x0 x1 x2 nl.length k L a z1 z2 z3 z4 p q r s n g lg nl items parts = f8h0 x0 x1 (wrap .i64 (x2 + 1)) L a' z1 z2 z3 z4 p q r s (items ++ [(n, (g, (lg, pt)))]) ∧
      a ≤ a' ∧ a' ≤ a + m ∧ pt.length ≤ 5 ∧ (pt = [[97, 108, 116, 111]] ∨ (pt ∈ subsG nl ∧ pt ≠ [])) := by
  intro m
  induction m with
  | zero =>
    intro k a parts hk h0 ha hp hs
    rw [f8h2_eq, dlt_not (i := k) (n := nl.length) (by omega), cond_false]
    cases hz : ((parts.length : Int) == 0) with
    | true =>
      refine ⟨a, [[97, 108, 116, 111]], ?_, by omega, by omega, by simp, .inl rfl⟩
      rw [cond_true]
      exact condT (dT (by simp; omega))
    | false =>
      refine ⟨a, parts, ?_, by omega, by omega, by omega, .inr ⟨?_, ?_⟩⟩
      · rw [cond_false]
        exact condT (dT (by simp; omega))
      · rw [List.take_of_length_le (by omega)] at hs; exact hs
      · rintro rfl; simp at hz
  | succ m ih =>
    intro k a parts hk h0 ha hp hs
    have hlt : k < nl.length := by omega
    rw [f8h2_eq, dlt hlt, dle0, getN _ _ _ hlt, wsucc (by omega), dT (p := Int.toNat (k : Int) < nl.length) (by simpa using hlt), atOk_t h0 (by omega), nextAt_s h0 (by omega)]
    simp only [cond_true]
    have htk : nl.take (k + 1) = nl.take k ++ [nl[k]] := (List.take_append_getElem hlt).symm
    cases next L a 2 == 0 with
    | true =>
      obtain ⟨a', it, e, h1, h2, h3⟩ := ih (k + 1) (a + 1) (parts ++ [nl[k]]) (by omega) (by omega) (by omega) (by simp; omega) (by rw [htk, subsG_snoc]; exact List.mem_append_right _ (List.mem_map_of_mem hs))
      refine ⟨a', it, ?_, by omega, by omega, h3⟩
      rw [cond_true, condT (dT (by simp; omega))]; exact e
    | false =>
      obtain ⟨a', it, e, h1, h2, h3⟩ := ih (k + 1) (a + 1) parts (by omega) (by omega) (by omega) (by omega) (by rw [htk, subsG_snoc]; exact List.mem_append_left _ hs)
      exact ⟨a', it, e, by omega, by omega, h3⟩

theorem QRp_mono {L : List Int} {a b c d : Int} (h1 : c ≤ a) (h2 : b ≤ d) {o : Option Fr} (h : Ends (QRp L a b) o) : Ends (QRp L c d) o := by
  refine ends_mono h ?_
  rintro f ⟨a', it, p, q, r, s, e, h3, h4, h5⟩
  exact ⟨a', it, p, q, r, s, e, by omega, by omega, h5⟩

theorem out_f {n lo hi : Int} (h1 : lo ≤ n) (h2 : n ≤ hi) : outside n lo hi = false := by
  unfold outside
  rw [dF (by omega), dF (by omega)]; rfl

theorem rp0 (xs : List Bytes) (hx : xs.length ≤ 5) (hxk : ∀ k ∈ xs, isKey k = true) (hxn : xs.Nodup) (L : List Int) (z1 z2 z3 z4 p q r : Int) (hp1 : outside p 0 86400000 = false) (hq1 : outside q 0 86400000 = false) (hr1 : outside r 0 86400000 = false) : ∀ (m i : Nat) (a : Int) (items : List Item),
    i + m = xs.length → 0 ≤ a → a + 10 * m + 10 ≤ 1099511627776 → items.length ≤ i → (∀ x ∈ items, x.2.2.2.length ≤ 5 ∧ itemOkB x = true) → (items.map fun x => x.1).Sublist (xs.take i) →
    Ends (QRp L a (a + 10 * m + 10)) (f8h0 xs xs.length i L a z1 z2 z3 z4 p q r (-1) items) := by
  intro m
  induction m with
  | zero =>
    intro i a items hi h0 ha hl hp hsub
    rw [f8h0_eq, dlt_not (i := i) (n := xs.length) (by omega), cond_false]
    have hnd : (items.map fun x => x.1).Nodup := (hsub.trans (List.take_sublist _ _)).nodup hxn
    have leaf : ∀ (a' s' : Int), a ≤ a' → a' ≤ a + 10 → outside s' (-1) (mx (-1) (wrap .i64 ((items.length : Int) - 2))) = false → Ends (QRp L a (a + 10 * (0 : Nat) + 10)) (some ⟨[.agg [.slc 2, .dat tI p, .dat tI q, .dat tI r, .dat tI s']], [(0, .box [.dat (.slice tI) L, .dat tI a']), (2, .arr tItem items)]⟩) :=
      fun a' s' h1 h2 h3 => ends_some ⟨a', items, p, q, r, s', rfl, h1, by omega, by omega, fun x hx => (hp x hx).1, checkProg_ok (items, (p, (q, (r, s')))) (by show items.length ≤ 5; omega) (fun x hx => (hp x hx).2) hnd hp1 hq1 hr1 h3⟩
    have hm1 : outside (-1) (-1) (mx (-1) (wrap .i64 ((items.length : Int) - 2))) = false := by
      refine out_f (by omega) ?_
      unfold mx; split <;> omega
    have hw2 : wrap .i64 ((items.length : Int) - 2) = (items.length : Int) - 2 := wrap_in (by omega) (by omega)
    have hw1 : wrap .i64 ((items.length : Int) - 1) = (items.length : Int) - 1 := wrap_in (by omega) (by omega)
    refine ends_cond (fun hg => ?_) (fun _ => leaf a (-1) (by omega) (by omega) hm1)
    have hg' : (items.length : Int) > 1 := by simpa using hg
    rw [atOk_t h0 (by omega), nextAt_s h0 (by omega), atOk_t (k := 1) (a := a + 1) (by omega) (by omega), nextAt_s (a := a + 1) (by omega) (by omega)]
    simp only [cond_true]
    refine ends_cond (fun _ => leaf _ _ (by omega) (by omega) ?_) (fun _ => leaf _ _ (by omega) (by omega) hm1)
    rw [hw1, hw2]
    obtain ⟨q1, q2⟩ := next_range L (a + 1) (n := (items.length : Int) - 1) (by omega) (by omega)
    refine out_f (by omega) ?_
    unfold mx; split <;> omega
  | succ m ih =>
    intro i a items hi h0 ha hl hp hsub
    have hlt : i < xs.length := by omega
    have htk : xs.take (i + 1) = xs.take i ++ [xs[i]] := (List.take_append_getElem hlt).symm
    rw [f8h0_eq, dlt hlt, dle0, getN _ _ _ hlt, wsucc (by omega), atOk_t h0 (by omega), nextAt_s h0 (by omega), atOk_t (k := 1) (a := a + 1) (by omega) (by omega), nextAt_s (a := a + 1) (by omega) (by omega),
      atOk_t (k := 1) (a := a + 1 + 1) (by omega) (by omega), nextAt_s (a := a + 1 + 1) (by omega) (by omega)]
    simp only [cond_true]
    refine ends_cond (fun _ => ?_) (fun _ => ?_)
    · exact QRp_mono (by omega) (by omega) (ih (i + 1) (a + 1) items (by omega) (by omega) (by omega) (by omega) hp (by rw [htk]; exact hsub.trans (List.sublist_append_left _ _)))
    · refine ends_if rfl (ends_if rfl ?_)
      obtain ⟨a', pt, e, h1, h2, h3, h4⟩ := rp2 xs xs.length i L z1 z2 z3 z4 p q r (-1) xs[i] (some_ L (a + 1) [[114, 111, 119, 115], [114, 111, 119, 115], [99, 105, 114, 99, 108, 101]]) (pick L (a + 1 + 1) [(50 : Int), (100 : Int), (100 : Int), (200 : Int)])
        partsL (by decide) items (by omega) 3 0 (a + 1 + 1 + 1) [] (by decide) (by omega) (by omega) (by simp) (by simp [subsG])
      rw [wsucc (by omega)] at e
      have e' : f8h2 xs xs.length i ((List.length ([[97, 108, 116, 111], [98, 97, 115, 115], [115, 111, 108, 105]] : List Bytes) : Nat) : Int) (0 : Int) L (a + 1 + 1 + 1) z1 z2 z3 z4 p q r (-1) xs[i] (some_ L (a + 1) [[114, 111, 119, 115], [114, 111, 119, 115], [99, 105, 114, 99, 108, 101]]) (pick L (a + 1 + 1) [(50 : Int), (100 : Int), (100 : Int), (200 : Int)])
        [[97, 108, 116, 111], [98, 97, 115, 115], [115, 111, 108, 105]] items [] = _ := e
      rw [e']
      refine QRp_mono (by omega) (by omega) (ih (i + 1) a' _ (by omega) (by omega) (by omega) (by simp; omega) ?_ ?_)
      · intro x hx
        rcases List.mem_append.1 hx with h | h
        · exact hp x h
        · rw [List.mem_singleton.1 h]
          refine ⟨h3, ?_⟩
          have k1 := hxk _ (List.getElem_mem hlt)
          have k2 := List.all_eq_true.1 places_good _ (some_in L (a + 1) [[114, 111, 119, 115], [114, 111, 119, 115], [99, 105, 114, 99, 108, 101]] (by decide) (by decide))
          have k3 := List.all_eq_true.1 longs_good _ (pick_in L (a + 1 + 1) [(50 : Int), (100 : Int), (100 : Int), (200 : Int)] (by decide) (by decide))
          have k4 : (partsF isKey pt == 0) = true := by
            rcases h4 with rfl | ⟨h5, h6⟩
            · exact alto_good
            · have := List.all_eq_true.1 parts_good _ h5
              simp only [Bool.or_eq_true, Bool.and_eq_true] at this
              rcases this with h7 | h7
              · exact absurd (by simpa using h7) h6
              · exact h7.1
          unfold itemOkB
          rw [k1, k2, k3, k4]; rfl
      · rw [htk, List.map_append]
        exact List.Sublist.append hsub (List.Sublist.refl _)

theorem rp_ends (L : List Int) (at_ n : Int) (h : (atOk 1000 at_ && decide (0 ≤ n) && decide (n ≤ 5)) = true) :
    Ends (QRp L at_ (at_ + 100)) (I8.run ⟨[.ptr 0 0, .dat tI n], [(0, .box [.dat (.slice tI) L, .dat tI at_])]⟩) := by
  simp only [Bool.and_eq_true, decide_eq_true_eq] at h
  obtain ⟨⟨h1, h2⟩, h3⟩ := h
  have h1 := atOk_iff.1 h1
  have b1 : ∀ n ∈ ([(0 : Int), 30, 50] : List Int), outside n 0 86400000 = false := by intro n hn; simp at hn; rcases hn with rfl | rfl | rfl <;> rfl
  have b2 : ∀ n ∈ ([(0 : Int), 10, 30] : List Int), outside n 0 86400000 = false := by intro n hn; simp at hn; rcases hn with rfl | rfl | rfl <;> rfl
  have b3 : ∀ n ∈ ([(0 : Int), 100] : List Int), outside n 0 86400000 = false := by intro n hn; simp at hn; rcases hn with rfl | rfl <;> rfl
  have c1 := b1 _ (pick_in L at_ [(0 : Int), 30, 50] (by decide) (by decide))
  have c2 := b2 _ (pick_in L (at_ + 1) [(0 : Int), 10, 30] (by decide) (by decide))
  have c3 := b3 _ (pick_in L (at_ + 1 + 1) [(0 : Int), 100] (by decide) (by decide))
  rw [f8_run, atOk_t h1.1 (by omega), nextAt_s h1.1 (by omega), atOk_t (k := 1) (a := at_ + 1) (by omega) (by omega), nextAt_s (a := at_ + 1) (by omega) (by omega),
      atOk_t (k := 1) (a := at_ + 1 + 1) (by omega) (by omega), nextAt_s (a := at_ + 1 + 1) (by omega) (by omega)]
  refine ends_if rfl (ends_if rfl (ends_if rfl (ends_if rfl (ends_if (dT h2) (ends_if (dT h3) ?_)))))
  generalize hx : List.drop (Int.toNat 0) (List.take (Int.toNat n) ([[99], [97], [100], [98], [101]] : List Bytes)) = xs
  have hsl : xs.Sublist ([[99], [97], [100], [98], [101]] : List Bytes) := by rw [← hx]; exact (List.drop_sublist _ _).trans (List.take_sublist _ _)
  have hl : xs.length ≤ 5 := hsl.length_le
  exact QRp_mono (by omega) (by omega) (rp0 xs hl (fun k hk => List.all_eq_true.1 keys_good k (hsl.subset hk)) (hsl.nodup (by decide)) L 0 0 0 0 _ _ _ c1 c2 c3 xs.length 0 (at_ + 1 + 1 + 1) [] (by omega) (by omega) (by omega) (by simp) (by simp) (by simp))

theorem rightP_spec (L : List Int) (at_ n : Int) (h : (atOk 1000 at_ && decide (0 ≤ n) && decide (n ≤ 5)) = true) :
    (at_ ≤ (rightP L at_ n).1 ∧ (rightP L at_ n).1 ≤ at_ + 200 ∧ (rightP L at_ n).2.1.length ≤ 5 ∧ (∀ x ∈ (rightP L at_ n).2.1, x.2.2.2.length ≤ 5) ∧ checkProg isKey (rightP L at_ n).2 = 0) ∧
    I8.run ⟨[.ptr 0 0, .dat tI n], [(0, .box [.dat (.slice tI) L, .dat tI at_])]⟩ = some ⟨[.agg [.slc 2, .dat tI (rightP L at_ n).2.2.1, .dat tI (rightP L at_ n).2.2.2.1, .dat tI (rightP L at_ n).2.2.2.2.1, .dat tI (rightP L at_ n).2.2.2.2.2]],
      [(0, .box [.dat (.slice tI) L, .dat tI (rightP L at_ n).1]), (2, .arr tItem (rightP L at_ n).2.1)]⟩ := by
  obtain ⟨f, hf, a', items, p, q, r, s, rfl, h1, h2, h3, h4, h5⟩ := rp_ends L at_ n h
  refine Classical.epsilon_spec (p := fun p : Int × List Item × Int × Int × Int × Int => (at_ ≤ p.1 ∧ p.1 ≤ at_ + 200 ∧ p.2.1.length ≤ 5 ∧ (∀ x ∈ p.2.1, x.2.2.2.length ≤ 5) ∧ checkProg isKey p.2 = 0) ∧
    I8.run ⟨[.ptr 0 0, .dat tI n], [(0, .box [.dat (.slice tI) L, .dat tI at_])]⟩ = some ⟨[.agg [.slc 2, .dat tI p.2.2.1, .dat tI p.2.2.2.1, .dat tI p.2.2.2.2.1, .dat tI p.2.2.2.2.2]], [(0, .box [.dat (.slice tI) L, .dat tI p.1]), (2, .arr tItem p.2.1)]⟩)
    ⟨(a', items, p, q, r, s), ⟨h1, by show a' ≤ _; omega, h3, h4, h5⟩, hf⟩

theorem r8 : R8 := fun a0 L at_ h => (rightP_spec L at_ a0 h).2

end Go.Ev.X

set_option linter.unusedVariables false
set_option linter.unusedSimpArgs false
namespace Go.Ev.X
open Go Go.Ev Go.Proofs
theorem outside_false {n lo hi : Int} (h : outside n lo hi = false) : lo ≤ n ∧ n ≤ hi := by
  unfold outside at h
  simp at h
  omega
theorem go12 (xs : List Int) (hb : xs.length ≤ 1000) : ∀ (m i : Nat), i + m = xs.length →
    f12h0 xs xs.length i = some ⟨[.dat tI (firstE (xs.drop i))], []⟩ := by
  intro m
  induction m with
  | zero => intro i hi; rw [f12h0_eq, condF (dlt_not (by omega)), dnil (xs := xs) (i := i) (by omega)]; rfl
  | succ m ih =>
    intro i hi
    have hlt : i < xs.length := by omega
    rw [f12h0_eq]
    rw [condT (dT (by first | omega | (simp only [List.length_append, List.length_cons, List.length_nil, List.length_set, List.length_take, List.length_drop, List.length_map]; omega) | (simp; omega)))]
    rw [condT (dT (by first | omega | (simp only [List.length_append, List.length_cons, List.length_nil, List.length_set, List.length_take, List.length_drop, List.length_map]; omega) | (simp; omega)))]
    rw [condT (dT (by first | omega | (simp only [List.length_append, List.length_cons, List.length_nil, List.length_set, List.length_take, List.length_drop, List.length_map]; omega) | (simp; omega)))]
    rw [getN _ _ _ hlt, wsucc (by omega), ih (i + 1) (by omega), dcons hlt, firstE]
    show cond (!(xs[i] == 0)) _ _ = _
    cases xs[i] == 0 <;> rfl
theorem r12 : R12 := by
  intro a0 h
  simp only [decide_eq_true_eq] at h
  rw [f12_run]
  exact go12 a0 h a0.length 0 (by omega)

theorem r19 : R19 := by
  intro a0 h
  simp only [decide_eq_true_eq] at h
  rw [f19_run, condT (dT (by simp; omega))]
  cases a0 with
  | nil => simp [both_self]
  | cons x l => simp

theorem swapG_eq {α : Type} (l : List α) (j : Nat) (h : j + 1 < l.length) : swapG l j = (l.set (j + 1) (l[j]'(by omega))).set j l[j + 1] := by
  unfold swapG
  rw [List.getElem?_eq_getElem (by omega), List.getElem?_eq_getElem h]
theorem ltG_eq {α : Type} (lt : α → α → Bool) (l : List α) (j : Nat) (h : j + 1 < l.length) : ltG lt l j = lt l[j + 1] (l[j]'(by omega)) := by
  unfold ltG
  rw [List.getElem?_eq_getElem h, List.getElem?_eq_getElem (show j < l.length by omega)]
theorem swapG_len {α : Type} (l : List α) (j : Nat) : (swapG l j).length = l.length := by
  unfold swapG
  cases l[j]? <;> cases l[j + 1]? <;> simp
theorem sinkG_len {α : Type} (lt : α → α → Bool) : ∀ (j : Nat) (l : List α), (sinkG lt j l).length = l.length
  | 0, l => rfl
  | j + 1, l => by
    unfold sinkG
    cases ltG lt l j with
    | true => rw [cond_true, sinkG_len lt j, swapG_len]
    | false => rfl
theorem sortGoG_len {α : Type} (lt : α → α → Bool) : ∀ (m i : Nat) (l : List α), (sortGoG lt m i l).length = l.length
  | 0, i, l => rfl
  | m + 1, i, l => by unfold sortGoG; rw [sortGoG_len lt m, sinkG_len]
theorem sortG_len {α : Type} (lt : α → α → Bool) (l : List α) : (sortG lt l).length = l.length := sortGoG_len _ _ _ _
theorem swapG_map {α β : Type} (f : α → β) (l : List α) (j : Nat) : swapG (l.map f) j = (swapG l j).map f := by
  unfold swapG
  rw [List.getElem?_map, List.getElem?_map]
  cases l[j]? <;> cases l[j + 1]? <;> simp [List.map_set]
theorem ltG_map {α β : Type} (f : α → β) (lt : α → α → Bool) (lt' : β → β → Bool) (h : ∀ a b, lt' (f a) (f b) = lt a b) (l : List α) (j : Nat) : ltG lt' (l.map f) j = ltG lt l j := by
  unfold ltG
  rw [List.getElem?_map, List.getElem?_map]
  cases l[j]? <;> cases l[j + 1]? <;> simp [h]
theorem sinkG_map {α β : Type} (f : α → β) (lt : α → α → Bool) (lt' : β → β → Bool) (h : ∀ a b, lt' (f a) (f b) = lt a b) : ∀ (j : Nat) (l : List α), sinkG lt' j (l.map f) = (sinkG lt j l).map f
  | 0, l => rfl
  | j + 1, l => by
    unfold sinkG
    rw [ltG_map f lt lt' h, swapG_map, sinkG_map f lt lt' h j]
    cases ltG lt l j <;> rfl
theorem sortGoG_map {α β : Type} (f : α → β) (lt : α → α → Bool) (lt' : β → β → Bool) (h : ∀ a b, lt' (f a) (f b) = lt a b) : ∀ (m i : Nat) (l : List α), sortGoG lt' m i (l.map f) = (sortGoG lt m i l).map f
  | 0, i, l => rfl
  | m + 1, i, l => by unfold sortGoG; rw [sinkG_map f lt lt' h, sortGoG_map f lt lt' h m]
theorem sortG_map {α β : Type} (f : α → β) (lt : α → α → Bool) (lt' : β → β → Bool) (h : ∀ a b, lt' (f a) (f b) = lt a b) (l : List α) : sortG lt' (l.map f) = (sortG lt l).map f := by
  unfold sortG
  rw [List.length_map, sortGoG_map f lt lt' h]

theorem idxBy_split {α : Type} (p : α → Bool) : ∀ (l : List α) (s : Nat), (idxBy p l s = -1 ∧ l.filter (fun o => !p o) = l) ∨
    ∃ n, n < l.length ∧ idxBy p l s = ((s + n : Nat) : Int) ∧ l.take n ++ (l.drop (n + 1)).filter (fun o => !p o) = l.filter (fun o => !p o)
  | [], s => .inl ⟨rfl, rfl⟩
  | x :: l, s => by
    cases hx : p x with
    | true => exact .inr ⟨0, by simp, by simp [idxBy, hx], by simp [hx]⟩
    | false =>
      rcases idxBy_split p l (s + 1) with ⟨h1, h2⟩ | ⟨n, h1, h2, h3⟩
      · refine .inl ⟨?_, ?_⟩
        · simp only [idxBy, hx, cond_false]; exact h1
        · rw [List.filter_cons, hx]; simp only [Bool.not_false, if_true]; rw [h2]
      · refine .inr ⟨n + 1, by simp; omega, ?_, ?_⟩
        · simp only [idxBy, hx, cond_false]; rw [h2]; congr 1; omega
        · rw [List.take_succ_cons, List.drop_succ_cons, List.filter_cons, hx]; simp only [Bool.not_false, if_true]; rw [← h3]; rfl
theorem eta_i (x : Item) : ((x.1, (x.2.1, (x.2.2.1, x.2.2.2))) : Item) = x := rfl

end Go.Ev.X

set_option linter.unusedVariables false
set_option linter.unusedSimpArgs false
namespace Go.Ev.X
open Go Go.Ev Go.Proofs
theorem eta_pr (p : Prgm) : ((p.1, (p.2.1, (p.2.2.1, (p.2.2.2.1, p.2.2.2.2)))) : Prgm) = p := rfl
theorem prog60 {key : Bytes → Bool} {p : Prgm} (h : checkProg key p = 0) : p.1.length ≤ 60 := by
  unfold checkProg at h
  have hc : checkItems key p.1 = 0 := by
    cases h1 : checkItems key p.1 != 0 with
    | true => rw [h1, cond_true] at h; exact h
    | false => have : (!(checkItems key p.1 == 0)) = false := h1
               simpa using this
  unfold checkItems at hc
  cases h2 : decide ((p.1.length : Int) > 60) with
  | true => rw [h2] at hc; cases hc
  | false => have : ¬ (p.1.length : Int) > 60 := by simpa using h2
             omega

theorem wrap_l (x y : Int) : wrap .i64 (wrap .i64 x + y) = wrap .i64 (x + y) := by
  simp only [wrap, IntKind.wrap_i64]
  omega
theorem wrap_r (x y : Int) : wrap .i64 (x + wrap .i64 y) = wrap .i64 (x + y) := by
  rw [Int.add_comm, wrap_l, Int.add_comm]

theorem tt_tim (p : Prgm) (fr : Int) : ∀ (l : List Item) (i a f : Int), f = wrap .i64 (fr + a) → ttGo fr (begGo p i a l).1 l = timGo p i f l
  | [], _, _, _, _ => rfl
  | [x], i, a, f, h => by subst h; rfl
  | x :: y :: l, i, a, f, h => by
    have ih := tt_tim p fr (y :: l) (i + 1) (wrap .i64 (wrap .i64 (a + x.2.2.1) + gapAt p i x y)) (wrap .i64 (wrap .i64 (f + x.2.2.1) + gapAt p i x y)) (by
      subst h
      simp only [wrap, IntKind.wrap_i64]
      omega)
    simp only [begGo, timGo, ttGo]
    rw [ih, h]

theorem long_last (p : Prgm) : ∀ (l : List Item) (x : Item) (i a : Int), ∃ t, (timGo p i a (x :: l)).getLast? = some t ∧ t.2.2 = (begGo p i a (x :: l)).2
  | [], x, i, a => ⟨_, rfl, rfl⟩
  | y :: l, x, i, a => by
    obtain ⟨t, h1, h2⟩ := long_last p l y (i + 1) (wrap .i64 (wrap .i64 (a + x.2.2.1) + gapAt p i x y))
    refine ⟨t, ?_, h2⟩
    simp only [timGo]
    rw [List.getLast?_cons, h1]; rfl

theorem long_eq (p : Prgm) : longR p = (begGo p 0 0 p.1).2 := by
  unfold longR
  cases p.1 with
  | nil => rfl
  | cons x l =>
    obtain ⟨t, h1, h2⟩ := long_last p l x 0 0
    rw [h1]; exact h2

theorem fromF_eq (p : Prgm) (f : Int) (h : checkProg keyR p = 0) : fromF p f = beginF p f := by
  unfold fromF beginF isMom
  rw [isKey_fun, h, long_eq, outside_in, Bool.not_not]
  rfl


theorem itemsGo_in : ∀ (l pre : List Item), itemsGo isKey pre l = 0 → ∀ x ∈ l, outside x.2.2.1 1 86400000 = false
  | [], _, _, x, hx => by cases hx
  | y :: l, pre, h, x, hx => by
    simp only [itemsGo] at h
    cases h1 : (!isKey y.1 || !isKey y.2.1) with
    | true => rw [h1, cond_true] at h; exact absurd h (by decide)
    | false =>
    rw [h1, cond_false] at h
    cases h2 : (pre.any fun o => o.1 == y.1) with
    | true => rw [h2, cond_true] at h; exact absurd h (by decide)
    | false =>
    rw [h2, cond_false] at h
    cases h3 : outside y.2.2.1 1 86400000 with
    | true => rw [h3, cond_true] at h; exact absurd h (by decide)
    | false =>
    rw [h3, cond_false] at h
    cases h4 : (partsF isKey y.2.2.2 != 0) with
    | true => rw [h4, cond_true] at h; rw [h] at h4; exact absurd h4 (by decide)
    | false =>
    rw [h4, cond_false] at h
    rcases List.mem_cons.1 hx with rfl | hx
    · exact h3
    · exact itemsGo_in l _ h x hx

theorem prog_in (p : Prgm) (h : checkProg isKey p = 0) : (∀ x ∈ p.1, outside x.2.2.1 1 86400000 = false) ∧ outside p.2.1 0 86400000 = false ∧ outside p.2.2.1 0 86400000 = false ∧ outside p.2.2.2.1 0 86400000 = false := by
  unfold checkProg at h
  cases h1 : (checkItems isKey p.1 != 0) with
  | true => rw [h1, cond_true] at h; rw [h] at h1; exact absurd h1 (by decide)
  | false =>
  rw [h1, cond_false] at h
  cases h2 : (outside p.2.1 0 86400000 || outside p.2.2.1 0 86400000 || outside p.2.2.2.1 0 86400000 || outside p.2.2.2.2 (-1) (mx (-1) (wrap .i64 ((p.1.length : Int) - 2)))) with
  | true => rw [h2, cond_true] at h; exact absurd h (by decide)
  | false =>
  simp only [Bool.or_eq_false_iff] at h2
  have h3 : checkItems isKey p.1 = 0 := by simpa using h1
  unfold checkItems at h3
  cases h4 : decide ((p.1.length : Int) > 60) with
  | true => rw [h4, cond_true] at h3; exact absurd h3 (by decide)
  | false =>
  rw [h4, cond_false] at h3
  exact ⟨itemsGo_in _ _ h3, h2.1.1.1, h2.1.1.2, h2.1.2⟩

theorem out_b {n lo hi : Int} (h : outside n lo hi = false) : lo ≤ n ∧ n ≤ hi := by
  unfold outside at h
  simp only [Bool.or_eq_false_iff, decide_eq_false_iff_not] at h
  omega

theorem gap_b (p : Prgm) (h : checkProg isKey p = 0) (i : Int) (x y : Item) : 0 ≤ gapAt p i x y ∧ gapAt p i x y ≤ 86400000 := by
  obtain ⟨_, h1, h2, h3⟩ := prog_in p h
  unfold gapAt
  cases (i == p.2.2.2.2)
  · cases (!(x.2.1 == y.2.1))
    · exact out_b h2
    · exact out_b h1
  · exact out_b h3

theorem beg_b (p : Prgm) (h : checkProg isKey p = 0) : ∀ (l : List Item) (i a : Int), (∀ x ∈ l, outside x.2.2.1 1 86400000 = false) → 0 ≤ a → a + l.length * 172800000 ≤ 1000000000000 → 0 ≤ (begGo p i a l).2 ∧ (begGo p i a l).2 ≤ a + l.length * 172800000
  | [], i, a, hx, h0, hb => ⟨h0, by simp [begGo]⟩
  | [x], i, a, hx, h0, hb => by
    have h1 := out_b (hx x List.mem_cons_self)
    simp only [begGo, List.length_singleton] at hb ⊢
    rw [wrap_in (by omega) (by omega)]
    omega
  | x :: y :: l, i, a, hx, h0, hb => by
    have h1 := out_b (hx x List.mem_cons_self)
    have h2 := gap_b p h i x y
    simp only [List.length_cons] at hb
    have hw : wrap .i64 (wrap .i64 (a + x.2.2.1) + gapAt p i x y) = a + x.2.2.1 + gapAt p i x y := by
      rw [wrap_in (x := a + x.2.2.1) (by omega) (by omega), wrap_in (by omega) (by omega)]
    have ih := beg_b p h (y :: l) (i + 1) (a + x.2.2.1 + gapAt p i x y) (fun z hz => hx z (List.mem_cons_of_mem _ hz)) (by omega) (by simp only [List.length_cons]; omega)
    simp only [begGo, hw]
    simp only [List.length_cons] at ih ⊢
    omega

theorem last_tt (p : Prgm) (fr : Int) : ∀ (l : List Item) (x : Item) (i a f : Int), f = wrap .i64 (fr + a) → ∃ t, (timGo p i f (x :: l)).getLast? = some t ∧ t.2.2 = wrap .i64 (fr + (begGo p i a (x :: l)).2)
  | [], x, i, a, f, h => ⟨_, rfl, by subst h; show wrap .i64 (wrap .i64 (fr + a) + x.2.2.1) = wrap .i64 (fr + wrap .i64 (a + x.2.2.1)); simp only [wrap, IntKind.wrap_i64]; omega⟩
  | y :: l, x, i, a, f, h => by
    obtain ⟨t, h1, h2⟩ := last_tt p fr l y (i + 1) (wrap .i64 (wrap .i64 (a + x.2.2.1) + gapAt p i x y)) (wrap .i64 (wrap .i64 (f + x.2.2.1) + gapAt p i x y)) (by
      subst h
      simp only [wrap, IntKind.wrap_i64]
      omega)
    refine ⟨t, ?_, h2⟩
    simp only [timGo]
    rw [List.getLast?_cons, h1]; rfl

theorem tim_len (p : Prgm) : ∀ (l : List Item) (i f : Int), (timGo p i f l).length = l.length
  | [], _, _ => rfl
  | [x], _, _ => rfl
  | x :: y :: l, i, f => by simp only [timGo, List.length_cons, tim_len p (y :: l)]

/-- What stands at a place of a time table. -/
theorem tim_at (p : Prgm) : ∀ (l : List Item) (i f : Int) (j : Nat) (t : Timed), (timGo p i f l)[j]? = some t → ∃ x, l[j]? = some x ∧ t.1 = x.1 ∧ t.2.2 = wrap .i64 (t.2.1 + x.2.2.1) ∧
    ∀ t2, (timGo p i f l)[j + 1]? = some t2 → ∃ y, l[j + 1]? = some y ∧ t2.2.1 = wrap .i64 (t.2.2 + gapAt p (i + j) x y)
  | [], i, f, j, t, h => by simp [timGo] at h
  | [x], i, f, j, t, h => by
    cases j with
    | zero =>
      simp only [timGo, List.getElem?_cons_zero, Option.some.injEq] at h
      subst h
      exact ⟨x, rfl, rfl, rfl, fun t2 h2 => by simp [timGo] at h2⟩
    | succ j => simp [timGo] at h
  | x :: y :: l, i, f, j, t, h => by
    cases j with
    | zero =>
      simp only [timGo, List.getElem?_cons_zero, Option.some.injEq] at h
      subst h
      refine ⟨x, rfl, rfl, rfl, fun t2 h2 => ⟨y, rfl, ?_⟩⟩
      have hh : (timGo p (i + 1) (wrap .i64 (wrap .i64 (f + x.2.2.1) + gapAt p i x y)) (y :: l))[0]? = some t2 := h2
      have : t2.2.1 = wrap .i64 (wrap .i64 (f + x.2.2.1) + gapAt p i x y) := by
        cases l with
        | nil => simp only [timGo, List.getElem?_cons_zero, Option.some.injEq] at hh; rw [← hh]
        | cons z l => simp only [timGo, List.getElem?_cons_zero, Option.some.injEq] at hh; rw [← hh]
      rw [this]; simp
    | succ j =>
      have hh : (timGo p (i + 1) (wrap .i64 (wrap .i64 (f + x.2.2.1) + gapAt p i x y)) (y :: l))[j]? = some t := h
      obtain ⟨z, h1, h2, h3, h4⟩ := tim_at p (y :: l) _ _ j t hh
      refine ⟨z, h1, h2, h3, fun t2 ht2 => ?_⟩
      obtain ⟨w, q1, q2⟩ := h4 t2 ht2
      refine ⟨w, q1, ?_⟩
      rw [q2, show i + 1 + (j : Int) = i + ((j + 1 : Nat) : Int) by omega]

theorem ch_step (half : Int) (xs : List Item) (i : Nat) (n : Int) (h : i + 1 < xs.length) :
    chGo half i (xs.drop i) n = chGo half ((i + 1 : Nat) : Int) (xs.drop (i + 1)) (cond ((i : Int) != half && !(xs[i].2.1 == xs[i + 1].2.1)) (wrap .i64 (n + 1)) n) := by
  rw [dcons (xs := xs) (i := i) (by omega), dcons (xs := xs) (i := i + 1) h]
  simp only [chGo]
  rfl

theorem wrap_back {F L : Int} (h1 : 0 ≤ L) (h2 : L ≤ 86400000) : wrap .i64 (wrap .i64 (F + L) - F) = L := by
  have h := IntKind.wrap_i64 (F + L)
  simp only [wrap, IntKind.wrap_i64]
  omega

theorem bne_f {a b : Int} (h : a = b) : (a != b) = false := by subst h; simp

/-- One round of the law after another. -/

theorem itemsGo_inv : ∀ (l pre : List Item), itemsGo isKey pre l = 0 → (pre.map fun x => x.1).Nodup → (∀ x ∈ l, itemOkB x = true) ∧ ((pre ++ l).map fun x => x.1).Nodup
  | [], pre, _, hn => ⟨fun x hx => (by cases hx), by simpa using hn⟩
  | y :: l, pre, h, hn => by
    simp only [itemsGo] at h
    cases h1 : (!isKey y.1 || !isKey y.2.1) with
    | true => rw [h1, cond_true] at h; exact absurd h (by decide)
    | false =>
    rw [h1, cond_false] at h
    cases h2 : (pre.any fun o => o.1 == y.1) with
    | true => rw [h2, cond_true] at h; exact absurd h (by decide)
    | false =>
    rw [h2, cond_false] at h
    cases h3 : outside y.2.2.1 1 86400000 with
    | true => rw [h3, cond_true] at h; exact absurd h (by decide)
    | false =>
    rw [h3, cond_false] at h
    cases h4 : (partsF isKey y.2.2.2 != 0) with
    | true => rw [h4, cond_true] at h; rw [h] at h4; exact absurd h4 (by decide)
    | false =>
    rw [h4, cond_false] at h
    simp only [Bool.or_eq_false_iff, Bool.not_eq_false'] at h1
    have hp0 : (partsF isKey y.2.2.2 == 0) = true := by simpa [bne] using h4
    have hn2 : ((pre ++ [y]).map fun x => x.1).Nodup := by
      rw [List.map_append, List.nodup_append]
      refine ⟨hn, by simp, fun a ha b hb => ?_⟩
      simp only [List.map_cons, List.map_nil, List.mem_singleton] at hb
      subst hb
      rintro rfl
      obtain ⟨o, ho, e⟩ := List.mem_map.1 ha
      have := List.any_eq_false.1 h2 o ho
      simp [e] at this
    obtain ⟨q1, q2⟩ := itemsGo_inv l (pre ++ [y]) h hn2
    refine ⟨fun x hx => ?_, by simpa using q2⟩
    rcases List.mem_cons.1 hx with rfl | hx
    · unfold itemOkB; rw [h1.1, h1.2, h3, hp0]; rfl
    · exact q1 x hx

theorem prog_items (p : Prgm) (h : checkProg isKey p = 0) : (∀ x ∈ p.1, itemOkB x = true) ∧ (p.1.map fun x => x.1).Nodup := by
  unfold checkProg at h
  cases h1 : (checkItems isKey p.1 != 0) with
  | true => rw [h1, cond_true] at h; rw [h] at h1; exact absurd h1 (by decide)
  | false =>
  have h3 : checkItems isKey p.1 = 0 := by simpa using h1
  unfold checkItems at h3
  cases h4 : decide ((p.1.length : Int) > 60) with
  | true => rw [h4, cond_true] at h3; exact absurd h3 (by decide)
  | false =>
  rw [h4, cond_false] at h3
  have := itemsGo_inv p.1 [] h3 (by simp)
  simpa using this

/-- A part of a right program is right. -/
theorem alone_ok (p : Prgm) (h : checkProg isKey p = 0) (hl : p.1.length ≤ 5) (its : List Item) (hs : its.Sublist p.1) : checkProg isKey (alone p its) = 0 := by
  obtain ⟨h1, h2⟩ := prog_items p h
  obtain ⟨_, h3, h4, h5⟩ := prog_in p h
  have hl2 := hs.length_le
  refine checkProg_ok (alone p its) (by show its.length ≤ 5; omega) (fun x hx => h1 x (hs.subset hx)) ((hs.map _).nodup h2) h3 h4 h5 ?_
  refine out_f (by show (-1 : Int) ≤ -1; omega) ?_
  show (-1 : Int) ≤ mx (-1) _
  unfold mx; split <;> omega

theorem long_alone (p : Prgm) (h : checkProg isKey p = 0) (hl : p.1.length ≤ 5) (its : List Item) (hs : its.Sublist p.1) : longP (its, (p.2.1, (p.2.2.1, (p.2.2.2.1, (-1 : Int))))) = (fitL p its, 0) := by
  have := alone_ok p h hl its hs
  unfold longP
  show cond (checkProg isKey (alone p its) != 0) _ _ = _
  rw [this]; rfl

def HalfInv (p : Prgm) (h : Nat) (b l : Int) : Prop := ∃ n : Nat, b = n ∧ n < h ∧ l = halfD p n ∧ (∀ i, i < h → l ≤ halfD p i) ∧ ∀ i, i < n → l < halfD p i

theorem half_spec (p : Prgm) : ∀ (m h : Nat) (b l : Int), (h = 0 ∧ b = -1 ∧ 0 < m) ∨ HalfInv p h b l → HalfInv p (h + m) (halfGo p m h b l).1 (halfGo p m h b l).2
  | 0, h, b, l, hi => by
    rcases hi with ⟨_, _, h0⟩ | hi
    · omega
    · exact hi
  | m + 1, h, b, l, hi => by
    have hstep : ∀ b' l', HalfInv p (h + 1) b' l' → HalfInv p (h + (m + 1)) (halfGo p m (h + 1) b' l').1 (halfGo p m (h + 1) b' l').2 := by
      intro b' l' hi'
      have := half_spec p m (h + 1) b' l' (.inr hi')
      rwa [show h + 1 + m = h + (m + 1) by omega] at this
    simp only [halfGo]
    rcases hi with ⟨rfl, rfl, _⟩ | ⟨n, rfl, h1, rfl, h2, h3⟩
    · rw [show decide ((-1 : Int) < 0) = true from rfl, cond_true]
      exact hstep _ _ ⟨0, rfl, by omega, rfl, fun i hi => (by rw [show i = 0 by omega]; exact Int.le_refl _), fun i hi => by omega⟩
    · rw [dF (p := ((n : Nat) : Int) < 0) (by omega), cond_false]
      cases hlt : decide (halfD p h < halfD p n) with
      | true =>
        have hlt' : halfD p h < halfD p n := by simpa using hlt
        rw [cond_true]
        refine hstep _ _ ⟨h, rfl, by omega, rfl, fun i hi => ?_, fun i hi => ?_⟩
        · by_cases he : i = h
          · subst he; exact Int.le_refl _
          · have := h2 i (by omega); omega
        · have := h2 i hi; omega
      | false =>
        have hlt' : ¬ halfD p h < halfD p n := by simpa using hlt
        rw [cond_false]
        refine hstep _ _ ⟨n, rfl, by omega, rfl, fun i hi => ?_, h3⟩
        by_cases he : i = h
        · subst he; omega
        · exact h2 i (by omega)


end Go.Ev.X

set_option linter.unusedVariables false
set_option linter.unusedSimpArgs false
namespace Go.Ev.X
open Go Go.Ev Go.Proofs
/-! ### the order of strings and of ranks -/
theorem bl_cons (x y : UInt8) (l m : Bytes) : bLess (x :: l) (y :: m) = (decide (x < y) || (x == y && bLess l m)) := rfl
theorem bl_nil (l : Bytes) : bLess l [] = false := by cases l <;> rfl
theorem bl_irr : ∀ a : Bytes, bLess a a = false
  | [] => rfl
  | x :: l => by
    rw [bl_cons, bl_irr l]
    simp
theorem bl_trans : ∀ a b c : Bytes, bLess a b = true → bLess b c = true → bLess a c = true
  | a, [], _, h, _ => by rw [bl_nil] at h; cases h
  | _, b :: m, [], _, h => by rw [bl_nil] at h; cases h
  | [], _ :: _, _ :: _, _, _ => rfl
  | x :: l, y :: m, z :: k, h1, h2 => by
    have ih := bl_trans l m k
    rw [bl_cons] at *
    simp only [Bool.or_eq_true, Bool.and_eq_true, decide_eq_true_eq, beq_iff_eq] at *
    rcases h1 with h1 | ⟨rfl, h1⟩
    · rcases h2 with h2 | ⟨rfl, h2⟩
      · exact .inl (UInt8.lt_trans h1 h2)
      · exact .inl h1
    · rcases h2 with h2 | ⟨rfl, h2⟩
      · exact .inl h2
      · exact .inr ⟨rfl, ih h1 h2⟩
theorem bl_tri : ∀ a b : Bytes, bLess a b = false → bLess b a = false → a = b
  | [], [], _, _ => rfl
  | [], _ :: _, h, _ => by cases h
  | _ :: _, [], _, h => by cases h
  | x :: l, y :: m, h1, h2 => by
    have ih := bl_tri l m
    rw [bl_cons] at h1 h2
    simp only [Bool.or_eq_false_iff, Bool.and_eq_false_iff, decide_eq_false_iff_not, beq_eq_false_iff_ne] at h1 h2
    have e : x = y := by
      have a1 : ¬ x.toNat < y.toNat := fun h => h1.1 (UInt8.lt_iff_toNat_lt.2 h)
      have a2 : ¬ y.toNat < x.toNat := fun h => h2.1 (UInt8.lt_iff_toNat_lt.2 h)
      exact UInt8.toNat_inj.1 (by omega)
    subst e
    rw [ih (h1.2.resolve_left (fun h => h rfl)) (h2.2.resolve_left (fun h => h rfl))]
theorem bl_asym {a b : Bytes} (h : bLess a b = true) : bLess b a = false := by
  cases hb : bLess b a with
  | false => rfl
  | true => have := bl_trans a b a h hb; rw [bl_irr] at this; cases this
theorem cmpB_cases (a b : Bytes) : (bLess a b = true ∧ cmpB a b = -1 ∧ cmpB b a = 1) ∨ (a = b ∧ cmpB a b = 0 ∧ cmpB b a = 0) ∨ (bLess b a = true ∧ cmpB a b = 1 ∧ cmpB b a = -1) := by
  unfold cmpB
  cases h1 : bLess a b with
  | true =>
    have h2 := bl_asym h1
    have h3 : (b == a) = false := by rw [beq_eq_false_iff_ne]; intro e; subst e; rw [bl_irr] at h1; cases h1
    exact .inl ⟨rfl, rfl, by rw [h2, h3]; rfl⟩
  | false =>
    cases h2 : bLess b a with
    | true =>
      have h3 : (a == b) = false := by rw [beq_eq_false_iff_ne]; intro e; subst e; rw [bl_irr] at h2; cases h2
      exact .inr (.inr ⟨rfl, by rw [h3]; rfl, rfl⟩)
    | false =>
      have e := bl_tri a b h1 h2
      subst e
      exact .inr (.inl ⟨rfl, by simp, by simp⟩)
theorem cmpB_lt {a b : Bytes} : cmpB a b < 0 ↔ bLess a b = true := by
  rcases cmpB_cases a b with ⟨h1, h2, h3⟩ | ⟨h1, h2, h3⟩ | ⟨h1, h2, h3⟩
  · rw [h2]; exact ⟨fun _ => h1, fun _ => by decide⟩
  · rw [h2]; subst h1; rw [bl_irr]; exact ⟨fun h => absurd h (by decide), fun h => by cases h⟩
  · rw [h2, bl_asym h1]; exact ⟨fun h => absurd h (by decide), fun h => by cases h⟩
theorem cmpB_neg (a b : Bytes) : cmpB b a = -cmpB a b := by
  rcases cmpB_cases a b with ⟨h1, h2, h3⟩ | ⟨h1, h2, h3⟩ | ⟨h1, h2, h3⟩ <;> rw [h2, h3] <;> rfl
theorem cmpB_zero {a b : Bytes} (h : cmpB a b = 0) : a = b := by
  rcases cmpB_cases a b with ⟨h1, h2, h3⟩ | ⟨h1, h2, h3⟩ | ⟨h1, h2, h3⟩
  · rw [h2] at h; cases h
  · exact h1
  · rw [h2] at h; cases h
theorem cmpB_self (a : Bytes) : cmpB a a = 0 := by
  rcases cmpB_cases a a with ⟨h1, h2, h3⟩ | ⟨h1, h2, h3⟩ | ⟨h1, h2, h3⟩
  · rw [bl_irr] at h1; cases h1
  · exact h2
  · rw [bl_irr] at h1; cases h1
theorem cmpS_neg : ∀ l m : List Bytes, cmpS m l = -cmpS l m
  | [], [] => rfl
  | [], _ :: _ => rfl
  | _ :: _, [] => rfl
  | x :: l, y :: m => by
    have ih := cmpS_neg l m
    unfold cmpS
    rw [cmpB_neg x y, ih]
    by_cases h : cmpB x y = 0
    · rw [h]; rfl
    · have e1 : (cmpB x y == 0) = false := by simpa using h
      have e2 : (-cmpB x y == 0) = false := by rw [beq_eq_false_iff_ne]; omega
      rw [e1, e2]; rfl
theorem cmpS_zero : ∀ l m : List Bytes, cmpS l m = 0 → l = m
  | [], [], _ => rfl
  | [], _ :: _, h => by cases h
  | _ :: _, [], h => by cases h
  | x :: l, y :: m, h => by
    have ih := cmpS_zero l m
    unfold cmpS at h
    by_cases h0 : cmpB x y = 0
    · rw [h0] at h; rw [cmpB_zero h0, ih h]
    · have e1 : (cmpB x y == 0) = false := by simpa using h0
      rw [e1] at h; exact absurd h h0
theorem cmpS_cons {x y : Bytes} {l m : List Bytes} : cmpS (x :: l) (y :: m) < 0 ↔ cmpB x y < 0 ∨ (x = y ∧ cmpS l m < 0) := by
  rw [cmpS]
  by_cases h0 : cmpB x y = 0
  · rw [h0]
    have e := cmpB_zero h0
    exact ⟨fun h => .inr ⟨e, h⟩, fun h => by rcases h with h | h; exact absurd h (by decide); exact h.2⟩
  · have e1 : (cmpB x y == 0) = false := by simpa using h0
    rw [e1]
    exact ⟨fun h => .inl h, fun h => by
      rcases h with h | ⟨rfl, h⟩
      · exact h
      · exact absurd (cmpB_self x) h0⟩
theorem cmpS_trans : ∀ l m k : List Bytes, cmpS l m < 0 → cmpS m k < 0 → cmpS l k < 0
  | [], [], _, h, _ => absurd h (by decide)
  | _ :: _, [], _, h, _ => absurd (show (1 : Int) < 0 from h) (by decide)
  | _, _ :: _, [], _, h => absurd (show (1 : Int) < 0 from h) (by decide)
  | [], _ :: _, _ :: _, _, _ => show (-1 : Int) < 0 by decide
  | x :: l, y :: m, z :: k, h1, h2 => by
    have ih := cmpS_trans l m k
    rw [cmpS_cons] at *
    rcases h1 with h1 | ⟨rfl, h1⟩
    · rcases h2 with h2 | ⟨rfl, h2⟩
      · exact .inl (cmpB_lt.2 (bl_trans x y z (cmpB_lt.1 h1) (cmpB_lt.1 h2)))
      · exact .inl h1
    · rcases h2 with h2 | ⟨rfl, h2⟩
      · exact .inl h2
      · exact .inr ⟨rfl, ih h1 h2⟩
theorem less_iff {a b : Rank} : lessR a b = true ↔ a.1 < b.1 ∨ (a.1 = b.1 ∧ (a.2.1 < b.2.1 ∨ (a.2.1 = b.2.1 ∧ cmpS a.2.2 b.2.2 < 0))) := by
  unfold lessR
  by_cases h1 : a.1 = b.1
  · have e1 : (a.1 != b.1) = false := by rw [h1]; simp
    rw [e1, cond_false]
    by_cases h2 : a.2.1 = b.2.1
    · have e2 : (a.2.1 != b.2.1) = false := by rw [h2]; simp
      rw [e2, cond_false, decide_eq_true_eq]
      exact ⟨fun h => .inr ⟨h1, .inr ⟨h2, h⟩⟩, fun h => by
        rcases h with h | ⟨_, h | ⟨_, h⟩⟩
        · omega
        · omega
        · exact h⟩
    · have e2 : (a.2.1 != b.2.1) = true := by simpa using h2
      rw [e2, cond_true, decide_eq_true_eq]
      exact ⟨fun h => .inr ⟨h1, .inl h⟩, fun h => by
        rcases h with h | ⟨_, h | ⟨h, _⟩⟩
        · omega
        · exact h
        · exact absurd h h2⟩
  · have e1 : (a.1 != b.1) = true := by simpa using h1
    rw [e1, cond_true, decide_eq_true_eq]
    exact ⟨fun h => .inl h, fun h => by
      rcases h with h | ⟨h, _⟩
      · exact h
      · exact absurd h h1⟩
theorem less_irr (a : Rank) : lessR a a = false := by
  cases h : lessR a a with
  | false => rfl
  | true =>
    have := less_iff.1 h
    have e := cmpS_neg a.2.2 a.2.2
    omega
theorem less_trans {a b c : Rank} (h1 : lessR a b = true) (h2 : lessR b c = true) : lessR a c = true := by
  rw [less_iff] at *
  rcases h1 with h1 | ⟨e1, h1 | ⟨e2, h1⟩⟩ <;> rcases h2 with h2 | ⟨g1, h2 | ⟨g2, h2⟩⟩
  all_goals first
    | exact .inl (by omega)
    | exact .inr ⟨by omega, .inl (by omega)⟩
    | exact .inr ⟨by omega, .inr ⟨by omega, cmpS_trans _ _ _ h1 h2⟩⟩
theorem less_tri {a b : Rank} (h1 : lessR a b = false) (h2 : lessR b a = false) : a = b := by
  replace h1 : ¬ lessR a b = true := by rw [h1]; simp
  replace h2 : ¬ lessR b a = true := by rw [h2]; simp
  rw [less_iff] at h1 h2
  have e := cmpS_neg a.2.2 b.2.2
  have a1 : a.1 = b.1 := by omega
  have a2 : a.2.1 = b.2.1 := by omega
  have a4 : cmpS a.2.2 b.2.2 = 0 := by omega
  have a3 := cmpS_zero _ _ a4
  clear a4 e h1 h2
  obtain ⟨x, y, z⟩ := a
  obtain ⟨x', y', z'⟩ := b
  simp only at a1 a2 a3
  subst a1; subst a2; subst a3; rfl

/-! ### the least of some -/
def runR (L : List Rank) (st : Bool × Rank) : Bool × Rank := L.foldl (fun st r => updF r st) st
theorem run_least : ∀ (L : List Rank) (r0 : Rank), ∃ r, runR L (true, r0) = (true, r) ∧ r ∈ r0 :: L ∧ ∀ s ∈ r0 :: L, lessR s r = false
  | [], r0 => ⟨r0, rfl, List.mem_cons_self .., fun s hs => by rcases List.mem_cons.1 hs with rfl | h; exact less_irr s; cases h⟩
  | s :: L, r0 => by
    unfold runR
    rw [List.foldl_cons]
    cases h : lessR s r0 with
    | true =>
      have e : updF s (true, r0) = (true, s) := by unfold updF; simp [h]
      rw [e]
      obtain ⟨r, h1, h2, h3⟩ := run_least L s
      refine ⟨r, h1, List.mem_cons_of_mem _ h2, fun t ht => ?_⟩
      rcases List.mem_cons.1 ht with rfl | ht
      · cases hr : lessR t r with
        | false => rfl
        | true => have := less_trans h hr; rw [h3 s (List.mem_cons_self ..)] at this; cases this
      · exact h3 t ht
    | false =>
      have e : updF s (true, r0) = (true, r0) := by unfold updF; simp [h]
      rw [e]
      obtain ⟨r, h1, h2, h3⟩ := run_least L r0
      have m2 : r ∈ r0 :: s :: L := by
        rcases List.mem_cons.1 h2 with rfl | h2
        · exact List.mem_cons_self ..
        · exact List.mem_cons_of_mem _ (List.mem_cons_of_mem _ h2)
      refine ⟨r, h1, m2, fun t ht => ?_⟩
      rcases List.mem_cons.1 ht with rfl | ht
      · exact h3 t (List.mem_cons_self ..)
      · rcases List.mem_cons.1 ht with rfl | ht
        · cases hr : lessR t r with
          | false => rfl
          | true =>
            have h4 := h3 r0 (List.mem_cons_self ..)
            cases h5 : lessR r r0 with
            | true => have := less_trans hr h5; rw [h] at this; cases this
            | false => have := less_tri h4 h5; subst this; rw [h] at hr; cases hr
        · exact h3 t (List.mem_cons_of_mem _ ht)
theorem run_same {L M : List Rank} (hL : L ≠ []) (hm : ∀ r, r ∈ L ↔ r ∈ M) (a b : Rank) : (runR L (false, a)).2 = (runR M (false, b)).2 := by
  cases L with
  | nil => exact absurd rfl hL
  | cons x L =>
    cases M with
    | nil => have := (hm x).1 (List.mem_cons_self ..); cases this
    | cons y M =>
      have e1 : runR (x :: L) (false, a) = runR L (true, x) := by unfold runR; rw [List.foldl_cons]; rfl
      have e2 : runR (y :: M) (false, b) = runR M (true, y) := by unfold runR; rw [List.foldl_cons]; rfl
      rw [e1, e2]
      obtain ⟨r, h1, h2, h3⟩ := run_least L x
      obtain ⟨s, g1, g2, g3⟩ := run_least M y
      rw [h1, g1]
      exact less_tri (g3 r ((hm r).1 h2)) (h3 s ((hm s).2 g2))

/-! ### all orders, in two ways -/
def permA : Nat → List Item → Nat → List (List Item)
  | 0, xs, _ => [xs]
  | m + 1, xs, i => (List.range' i (m + 1)).flatMap fun j => permA m (swapL xs i j) (i + 1)
def permB (its : List Item) : Nat → List Item → List (List Item)
  | 0, l => [l]
  | m + 1, l => its.flatMap fun x => cond (l.any fun o => o.1 == x.1) [] (permB its m (l ++ [x]))
theorem ordF_run (c : Int × Int × Int × Int) : ∀ (m : Nat) (xs : List Item) (i : Nat) (st : Bool × Rank), ordF c m xs i st = runR ((permA m xs i).map fun l => rankF (l, c)) st
  | 0, xs, i, st => rfl
  | m + 1, xs, i, st => by
    have ih := ordF_run c m
    unfold ordF permA runR
    rw [List.map_flatMap, List.foldl_flatMap]
    congr 1
    funext st j
    exact ih _ _ _
theorem betR_eq (a b : Prgm) : betR a b = lessR (rankF a) (rankF b) := by
  have e1 := long_eq a
  have e2 := long_eq b
  unfold betR lessR rankF
  rw [e1, e2]
  generalize (begGo a 0 0 a.1).2 = x1
  generalize (begGo b 0 0 b.1).2 = y1
  generalize pairsF a.2.2.2.2 0 a.1 0 = x2
  generalize pairsF b.2.2.2.2 0 b.1 0 = y2
  simp only [cmpGo, cmpI]
  by_cases h1 : x1 < y1
  · have h2 : x1 ≠ y1 := by omega
    simp [h1, h2]
  · by_cases h2 : x1 > y1
    · have h3 : x1 ≠ y1 := by omega
      simp [h1, h2, h3]
    · have h3 : x1 = y1 := by omega
      subst h3
      by_cases g1 : x2 < y2
      · have g2 : x2 ≠ y2 := by omega
        simp [g1, g2]
      · by_cases g2 : x2 > y2
        · have g3 : x2 ≠ y2 := by omega
          simp [g1, g2, g3]
        · have g3 : x2 = y2 := by omega
          subst g3
          simp
def phiQ (st : Bool × Prgm) : Bool × Rank := (st.1, rankF st.2)
theorem phi_upd (q : Prgm) (st : Bool × Prgm) : phiQ (updQ q st) = updF (rankF q) (phiQ st) := by
  unfold updQ updF
  rw [betR_eq]
  show phiQ (cond (!st.1 || lessR (rankF q) (rankF st.2)) (true, q) st) = cond (!st.1 || lessR (rankF q) (rankF st.2)) (true, rankF q) (phiQ st)
  cases (!st.1 || lessR (rankF q) (rankF st.2)) <;> rfl
theorem foldl_phi {α : Type} (f : Bool × Prgm → α → Bool × Prgm) (g : Bool × Rank → α → Bool × Rank) (h : ∀ st x, phiQ (f st x) = g (phiQ st) x) : ∀ (l : List α) (st : Bool × Prgm), phiQ (l.foldl f st) = l.foldl g (phiQ st)
  | [], st => rfl
  | x :: l, st => by rw [List.foldl_cons, List.foldl_cons, foldl_phi f g h l, h]
theorem tryF_run (its : List Item) (c : Int × Int × Int × Int) : ∀ (m : Nat) (l : List Item) (st : Bool × Prgm), phiQ (tryF its c m l st) = runR ((permB its m l).map fun l => rankF (l, c)) (phiQ st)
  | 0, l, st => phi_upd (l, c) st
  | m + 1, l, st => by
    have ih := tryF_run its c m
    unfold tryF permB runR
    rw [List.map_flatMap, List.foldl_flatMap]
    refine foldl_phi _ _ (fun st x => ?_) its st
    cases l.any fun o => o.1 == x.1 with
    | true => rfl
    | false => exact ih _ _

def KN (l : List Item) : Prop := ∀ (a b : Nat) (ha : a < l.length) (hb : b < l.length), l[a].1 = l[b].1 → a = b
def Sel (its l : List Item) : Prop := l.length = its.length ∧ KN l ∧ ∀ x ∈ l, x ∈ its
theorem swapL_len (xs : List Item) (i j : Nat) : (swapL xs i j).length = xs.length := by simp [swapL]
theorem swapL_get (xs : List Item) (i j a : Nat) (hi : i < xs.length) (hj : j < xs.length) (ha : a < xs.length) :
    (swapL xs i j)[a]'(by rw [swapL_len]; exact ha) = xs[if a = j then i else if a = i then j else a]'(by split; exact hi; split; exact hj; exact ha) := by
  have hb : (if a = j then i else if a = i then j else a) < xs.length := by split; exact hi; split; exact hj; exact ha
  have e : (swapL xs i j)[a]? = xs[if a = j then i else if a = i then j else a]? := by
    unfold swapL
    rw [List.getElem?_set, List.getElem?_set, List.length_set, List.getD_eq_getElem?_getD, List.getD_eq_getElem?_getD, List.getElem?_eq_getElem hi, List.getElem?_eq_getElem hj]
    by_cases h1 : a = j
    · subst h1; simp [hj, hi]
    · by_cases h2 : a = i
      · subst h2
        rw [if_neg (Ne.symm h1), if_pos rfl]
        simp [h1, hi, hj]
      · rw [if_neg (Ne.symm h1), if_neg (Ne.symm h2)]
        simp [h1, h2]
  rw [List.getElem?_eq_getElem (by rw [swapL_len]; exact ha), List.getElem?_eq_getElem hb] at e
  exact Option.some.inj e
theorem swapL_mem (xs : List Item) (i j : Nat) (hi : i < xs.length) (hj : j < xs.length) (x : Item) : x ∈ swapL xs i j ↔ x ∈ xs := by
  constructor
  · intro h
    obtain ⟨a, ha, rfl⟩ := List.mem_iff_getElem.1 h
    rw [swapL_get xs i j a hi hj (by rw [swapL_len] at ha; exact ha)]
    exact List.getElem_mem _
  · intro h
    obtain ⟨a, ha, rfl⟩ := List.mem_iff_getElem.1 h
    have hb : (if a = j then i else if a = i then j else a) < xs.length := by split; exact hi; split; exact hj; exact ha
    refine List.mem_iff_getElem.2 ⟨if a = j then i else if a = i then j else a, by rw [swapL_len]; exact hb, ?_⟩
    rw [swapL_get xs i j _ hi hj hb]
    congr 1
    by_cases h1 : a = j
    · subst h1
      simp only [if_true]
      by_cases h2 : i = a
      · simp [h2]
      · simp [h2]
    · simp only [h1, if_false]
      by_cases h2 : a = i
      · subst h2; simp
      · simp [h1, h2]
theorem swapL_kn (xs : List Item) (i j : Nat) (hi : i < xs.length) (hj : j < xs.length) (h : KN xs) : KN (swapL xs i j) := by
  intro a b ha hb e
  rw [swapL_len] at ha hb
  rw [swapL_get xs i j a hi hj ha, swapL_get xs i j b hi hj hb] at e
  have := h _ _ _ _ e
  by_cases a1 : a = j <;> by_cases b1 : b = j <;> by_cases a2 : a = i <;> by_cases b2 : b = i <;> simp_all
theorem permA_sel (its : List Item) : ∀ (m : Nat) (xs : List Item) (i : Nat), i + m = xs.length → Sel its xs → ∀ l ∈ permA m xs i, Sel its l
  | 0, xs, i, hi, h, l, hl => by rw [List.mem_singleton.1 hl]; exact h
  | m + 1, xs, i, hi, h, l, hl => by
    obtain ⟨j, hj, hl⟩ := List.mem_flatMap.1 hl
    have hj := List.mem_range'_1.1 hj
    refine permA_sel its m _ (i + 1) (by rw [swapL_len]; omega) ⟨by rw [swapL_len]; exact h.1, swapL_kn _ _ _ (by omega) (by omega) h.2.1, fun x hx => h.2.2 x ((swapL_mem xs i j (by omega) (by omega) x).1 hx)⟩ l hl
theorem sel_permA (its : List Item) (l : List Item) (hl : Sel its l) : ∀ (m : Nat) (xs : List Item) (i : Nat), i + m = xs.length → xs.length = its.length → (∀ x, x ∈ xs ↔ x ∈ its) → (∀ a (h1 : a < l.length) (h2 : a < xs.length), a < i → l[a] = xs[a]) → l ∈ permA m xs i
  | 0, xs, i, hi, hx, hm, he => by
    have : l = xs := List.ext_getElem (by rw [hl.1, hx]) (fun a h1 h2 => he a h1 h2 (by omega))
    rw [this]; exact List.mem_singleton.2 rfl
  | m + 1, xs, i, hi, hx, hm, he => by
    have h1 : i < l.length := by rw [hl.1, ← hx]; omega
    have hmem : l[i] ∈ xs := (hm _).2 (hl.2.2 _ (List.getElem_mem h1))
    obtain ⟨j, hj, ej⟩ := List.mem_iff_getElem.1 hmem
    have hij : i ≤ j := by
      by_cases hc : j < i
      · have := he j (by omega) hj hc
        have e2 : l[j].1 = l[i].1 := by rw [this, ej]
        have := hl.2.1 j i (by omega) h1 e2
        omega
      · omega
    refine List.mem_flatMap.2 ⟨j, List.mem_range'_1.2 ⟨hij, by omega⟩, ?_⟩
    refine sel_permA its l hl m _ (i + 1) (by rw [swapL_len]; omega) (by rw [swapL_len]; exact hx) (fun x => (swapL_mem xs i j (by omega) hj x).trans (hm x)) ?_
    intro a ha hb hai
    rw [swapL_len] at hb
    rw [swapL_get xs i j a (by omega) hj hb]
    by_cases h2 : a = i
    · subst h2
      by_cases h3 : a = j
      · subst h3; simp [ej]
      · simp [h3, ej]
    · have h3 : a ≠ j := by omega
      simp only [h2, h3, if_false]
      exact he a ha hb (by omega)
theorem permB_sel (its : List Item) : ∀ (m : Nat) (l : List Item), KN l → (∀ x ∈ l, x ∈ its) → ∀ k ∈ permB its m l, KN k ∧ (∀ x ∈ k, x ∈ its) ∧ k.length = l.length + m
  | 0, l, h1, h2, k, hk => by rw [List.mem_singleton.1 hk]; exact ⟨h1, h2, rfl⟩
  | m + 1, l, h1, h2, k, hk => by
    obtain ⟨x, hx, hk⟩ := List.mem_flatMap.1 hk
    cases hc : l.any fun o => o.1 == x.1 with
    | true => rw [hc] at hk; cases hk
    | false =>
      rw [hc] at hk
      have hne : ∀ y ∈ l, y.1 ≠ x.1 := fun y hy => by
        have := List.any_eq_false.1 hc y hy
        simpa using this
      have hk' := permB_sel its m (l ++ [x]) (by
        intro a b ha hb e
        rw [List.length_append, List.length_singleton] at ha hb
        by_cases ha' : a < l.length
        · by_cases hb' : b < l.length
          · rw [List.getElem_append_left ha', List.getElem_append_left hb'] at e
            exact h1 a b ha' hb' e
          · rw [List.getElem_append_left ha', List.getElem_append_right (by omega)] at e
            simp only [List.getElem_singleton] at e
            exact absurd e (hne _ (List.getElem_mem ha'))
        · by_cases hb' : b < l.length
          · rw [List.getElem_append_left hb', List.getElem_append_right (by omega)] at e
            simp only [List.getElem_singleton] at e
            exact absurd e.symm (hne _ (List.getElem_mem hb'))
          · omega) (by
        intro y hy
        rcases List.mem_append.1 hy with h | h
        · exact h2 y h
        · rw [List.mem_singleton.1 h]; exact hx) k hk
      refine ⟨hk'.1, hk'.2.1, ?_⟩
      rw [hk'.2.2, List.length_append, List.length_singleton]; omega
theorem sel_permB (its : List Item) (k : List Item) (hk : Sel its k) : ∀ (m : Nat) (i : Nat), i + m = k.length → k ∈ permB its m (k.take i)
  | 0, i, hi => by rw [List.take_of_length_le (by omega)]; exact List.mem_singleton.2 rfl
  | m + 1, i, hi => by
    have h1 : i < k.length := by omega
    refine List.mem_flatMap.2 ⟨k[i], hk.2.2 _ (List.getElem_mem h1), ?_⟩
    have hc : ((k.take i).any fun o => o.1 == k[i].1) = false := by
      rw [List.any_eq_false]
      intro y hy
      obtain ⟨a, ha, rfl⟩ := List.mem_iff_getElem.1 hy
      rw [List.length_take] at ha
      rw [List.getElem_take]
      intro e
      have := hk.2.1 a i (by omega) h1 (by simpa using e)
      omega
    rw [hc]
    have := sel_permB its k hk m (i + 1) (by omega)
    rw [List.take_succ_eq_append_getElem h1] at this
    exact this
theorem orders_same (p : Prgm) (hk : KN p.1) : (ordS p).2 = rankF (tryS p).2 := by
  have hs : Sel p.1 p.1 := ⟨rfl, hk, fun x h => h⟩
  have e1 : ordS p = runR ((permA p.1.length p.1 0).map fun l => rankF (l, p.2)) (false, (0, (0, []))) := ordF_run p.2 _ _ _ _
  have e2 : phiQ (tryS p) = runR ((permB p.1 p.1.length []).map fun l => rankF (l, p.2)) (false, rankF p) := tryF_run p.1 p.2 _ _ _
  have hmem : ∀ l, l ∈ permA p.1.length p.1 0 ↔ l ∈ permB p.1 p.1.length [] := by
    intro l
    constructor
    · intro h
      have h := permA_sel p.1 _ p.1 0 (Nat.zero_add _) hs l h
      have := sel_permB p.1 l h l.length 0 (Nat.zero_add _)
      rw [h.1] at this
      exact this
    · intro h
      have h := permB_sel p.1 p.1.length [] (fun a b ha => by cases ha) (fun x hx => by cases hx) l h
      exact sel_permA p.1 l ⟨by rw [h.2.2]; simp, h.1, h.2.1⟩ _ p.1 0 (Nat.zero_add _) rfl (fun x => Iff.rfl) (fun a _ _ ha => absurd ha (Nat.not_lt_zero _))
  have hne : ((permA p.1.length p.1 0).map fun l => rankF (l, p.2)) ≠ [] := by
    have : p.1 ∈ permA p.1.length p.1 0 := sel_permA p.1 p.1 hs _ p.1 0 (Nat.zero_add _) rfl (fun x => Iff.rfl) (fun a _ _ ha => absurd ha (Nat.not_lt_zero _))
    intro e
    rw [List.map_eq_nil_iff] at e
    rw [e] at this; cases this
  rw [e1]
  show _ = (phiQ (tryS p)).2
  rw [e2]
  refine run_same hne (fun r => ?_) _ _
  rw [List.mem_map, List.mem_map]
  constructor
  · rintro ⟨l, h, rfl⟩; exact ⟨l, (hmem l).1 h, rfl⟩
  · rintro ⟨l, h, rfl⟩; exact ⟨l, (hmem l).2 h, rfl⟩

end Go.Ev.X

set_option linter.unusedVariables false
set_option linter.unusedSimpArgs false
namespace Go.Ev.X
open Go Go.Ev Go.Proofs
theorem go45 (a : List Bytes) (x : Bytes) (ha : a.length ≤ 1000) : ∀ (m i : Nat), i + m = a.length → f45h0 a x a.length i = some ⟨[.dat tI (idxS x (a.drop i) i)], []⟩ := by
  intro m
  induction m with
  | zero => intro i hi; rw [f45h0_eq, condF (dlt_not (by omega)), dnil (xs := a) (i := i) (by omega)]; rfl
  | succ m ih =>
    intro i hi
    have hlt : i < a.length := by omega
    rw [f45h0_eq]
    rw [condT (dT (by first | omega | (simp only [List.length_append, List.length_cons, List.length_nil, List.length_set, List.length_take, List.length_drop, List.length_map]; omega) | (simp; omega)))]
    rw [condT (dT (by first | omega | (simp only [List.length_append, List.length_cons, List.length_nil, List.length_set, List.length_take, List.length_drop, List.length_map]; omega) | (simp; omega)))]
    rw [condT (dT (by first | omega | (simp only [List.length_append, List.length_cons, List.length_nil, List.length_set, List.length_take, List.length_drop, List.length_map]; omega) | (simp; omega)))]
    rw [getN _ _ _ hlt, dcons hlt, wsucc (by omega), ih (i + 1) (by omega)]
    simp only [idxS]
    cases x == a[i] <;> rfl
theorem r45 : R45 := by
  intro a0 a1 h
  rw [f45_run]
  exact go45 a0 a1 (by simpa using h) a0.length 0 (by omega)
theorem r21 : R21 := by
  intro a0 a1 h
  rw [f21_run, h]; rfl
theorem com1 (x : Bytes) (bk bp : Bytes) (bl : Int) (bps : List Bytes) (h : bps.length ≤ 1000) : t101_ok x bk bp bl bps = true ∧ t101_0 x bk bp bl bps = hasS bps x := by
  unfold t101_ok t101_0 t101
  rw [dT h]; exact ⟨rfl, rfl⟩
theorem go118 (xs : List Bytes) (hb : xs.length ≤ 1000) (bk bp : Bytes) (bl : Int) (bps : List Bytes) (h : bps.length ≤ 1000) : ∀ (m i : Nat), i + m = xs.length →
    f118h0 xs xs.length i bk bp bl bps = some ⟨[.dat tI (idxBy (fun o => t101_0 o bk bp bl bps) (xs.drop i) i)], [(0, .box [.dat .str bk, .dat .str bp, .dat tI bl, .dat (.slice .str) bps])]⟩ := by
  intro m
  induction m with
  | zero => intro i hi; rw [f118h0_eq, condF (dlt_not (by omega)), dnil (xs := xs) (i := i) (by omega)]; rfl
  | succ m ih =>
    intro i hi
    have hlt : i < xs.length := by omega
    rw [f118h0_eq]
    rw [condT (dT (by first | omega | (simp only [List.length_append, List.length_cons, List.length_nil, List.length_set, List.length_take, List.length_drop, List.length_map]; omega) | (simp; omega)))]
    rw [condT (dT (by first | omega | (simp only [List.length_append, List.length_cons, List.length_nil, List.length_set, List.length_take, List.length_drop, List.length_map]; omega) | (simp; omega)))]
    rw [condT (dT (by first | omega | (simp only [List.length_append, List.length_cons, List.length_nil, List.length_set, List.length_take, List.length_drop, List.length_map]; omega) | (simp; omega)))]
    rw [getN _ _ _ hlt, condT (com1 _ bk bp bl bps h).1, wsucc (by omega), ih (i + 1) (by omega), dcons hlt]
    simp only [idxBy]
    cases t101_0 xs[i] bk bp bl bps <;> rfl
theorem r118 : R118 := by
  intro a0 bk bp bl bps h
  simp only [Bool.and_eq_true, decide_eq_true_eq] at h
  rw [f118_run]
  exact go118 a0 h.1 bk bp bl bps h.2 a0.length 0 (by omega)
theorem any_congr' {α : Type} {p q : α → Bool} : ∀ (l : List α), (∀ x ∈ l, p x = q x) → l.any p = l.any q
  | [], _ => rfl
  | x :: l, h => by rw [List.any_cons, List.any_cons, h x (List.mem_cons_self ..), any_congr' l (fun y hy => h y (List.mem_cons_of_mem _ hy))]
theorem com_any (l : List Bytes) (bk bp : Bytes) (bl : Int) (bps : List Bytes) (h : bps.length ≤ 1000) (hl : l.length ≤ 1000) : t100_ok l bk bp bl bps = true ∧ t100_0 l bk bp bl bps = l.any fun o => hasS bps o := by
  unfold t100_ok t100_0 t100
  rw [dT hl, dT h]
  refine ⟨rfl, ?_⟩
  show decide (idxBy (fun o => t101_0 o bk bp bl bps) l 0 ≥ 0) = _
  rw [idxBy_any]
  exact any_congr' l fun x _ => (com1 x bk bp bl bps h).2
theorem r74 : R74 := by
  intro a0 a1 h
  simp only [Bool.and_eq_true, decide_eq_true_eq] at h
  obtain ⟨q1, q2⟩ := com_any a0.2.2.2 a1.1 a1.2.1 a1.2.2.1 a1.2.2.2 h.2 h.1
  rw [f74_run, condT q1, q2]; rfl

theorem parts_mem {l : List Item} (h : partsOk l = true) {x : Item} (hx : x ∈ l) : x.2.2.2.length ≤ 1000 := by
  have := List.all_eq_true.1 h x hx
  simpa using this
theorem parts_of {l : List Item} (h : ∀ x ∈ l, x.2.2.2.length ≤ 1000) : partsOk l = true := List.all_eq_true.2 fun x hx => by simpa using h x hx

theorem pairsF_snoc (half : Int) (y : Item) : ∀ (l : List Item) (x : Item) (i n : Int), pairsF half i (l ++ [x, y]) n = cond ((i + (l.length : Int)) != half && comF x y) (wrap .i64 (pairsF half i (l ++ [x]) n + 1)) (pairsF half i (l ++ [x]) n)
  | [], x, i, n => by
    simp only [List.nil_append, pairsF, List.length_nil]
    rw [show i + ((0 : Nat) : Int) = i by omega]
  | [a], x, i, n => by
    have := pairsF_snoc half y [] x (i + 1) (cond (i != half && comF a x) (wrap .i64 (n + 1)) n)
    simp only [List.nil_append, List.length_nil] at this
    simp only [List.cons_append, List.nil_append, List.length_cons, List.length_nil]
    rw [pairsF, this, pairsF]
    rw [show i + 1 + ((0 : Nat) : Int) = i + ((0 + 1 : Nat) : Int) by omega]
  | a :: b :: l, x, i, n => by
    have := pairsF_snoc half y (b :: l) x (i + 1) (cond (i != half && comF a b) (wrap .i64 (n + 1)) n)
    simp only [List.cons_append, List.length_cons] at this ⊢
    rw [pairsF, this, pairsF]
    rw [show i + 1 + ((l.length + 1 : Nat) : Int) = i + ((l.length + 1 + 1 : Nat) : Int) by omega]
theorem pairs_take (half : Int) (xs : List Item) (i : Nat) (h0 : 0 < i) (h : i < xs.length) :
    pairsF half 0 (xs.take (i + 1)) 0 = cond (((i - 1 : Nat) : Int) != half && comF xs[i - 1] xs[i]) (wrap .i64 (pairsF half 0 (xs.take i) 0 + 1)) (pairsF half 0 (xs.take i) 0) := by
  have e1 : xs.take (i + 1) = xs.take (i - 1) ++ [xs[i - 1], xs[i]] := by
    rw [List.take_succ_eq_append_getElem h]
    have : xs.take i = xs.take (i - 1) ++ [xs[i - 1]] := by
      have := List.take_succ_eq_append_getElem (l := xs) (i := i - 1) (by omega)
      rw [show i - 1 + 1 = i by omega] at this; exact this
    rw [this, List.append_assoc]; rfl
  have e2 : xs.take i = xs.take (i - 1) ++ [xs[i - 1]] := by
    have := List.take_succ_eq_append_getElem (l := xs) (i := i - 1) (by omega)
    rw [show i - 1 + 1 = i by omega] at this; exact this
  rw [e1, e2, pairsF_snoc, List.length_take]
  rw [show (0 : Int) + ((min (i - 1) xs.length : Nat) : Int) = ((i - 1 : Nat) : Int) by omega]

theorem go48 (p : Prgm) (hb : p.1.length ≤ 1000) (hp : partsOk p.1 = true) (a b long : Int) (z : List Bytes) : ∀ (m i : Nat) (out : List Bytes), i + m = p.1.length → out = keysI (p.1.take i) →
    f48h0 p.1 p.1.length i p.1 p.2.1 p.2.2.1 p.2.2.2.1 p.2.2.2.2 a b long (pairsF p.2.2.2.2 0 (p.1.take i) 0) z out = some ⟨[.agg [.dat tI long, .dat tI (pairsF p.2.2.2.2 0 p.1 0), .slc 0]], [(0, .arr .str (keysI p.1))]⟩ := by
  intro m
  induction m with
  | zero => intro i out hi ho; rw [f48h0_eq, condF (dlt_not (by omega)), ho, List.take_of_length_le (by omega)]
  | succ m ih =>
    intro i out hi ho
    have hlt : i < p.1.length := by omega
    have hlo : out.length ≤ i := by rw [ho]; unfold keysI; rw [List.length_map, List.length_take]; omega
    have ek : out ++ [p.1[i].1] = keysI (p.1.take (i + 1)) := by
      rw [ho]; unfold keysI; rw [List.take_succ_eq_append_getElem hlt, List.map_append]; rfl
    rw [f48h0_eq]
    rw [condT (dT (by first | omega | (simp only [List.length_append, List.length_cons, List.length_nil, List.length_set, List.length_take, List.length_drop, List.length_map]; omega) | (simp; omega)))]
    rw [condT (dT (by first | omega | (simp only [List.length_append, List.length_cons, List.length_nil, List.length_set, List.length_take, List.length_drop, List.length_map]; omega) | (simp; omega)))]
    rw [condT (dT (by first | omega | (simp only [List.length_append, List.length_cons, List.length_nil, List.length_set, List.length_take, List.length_drop, List.length_map]; omega) | (simp; omega)))]
    rw [getN _ _ _ hlt, eta_i, condT (dT (by simp; omega)), wsucc (by omega)]
    by_cases h0 : 0 < i
    · have ew : wrap .i64 ((i : Int) - 1) = ((i - 1 : Nat) : Int) := by rw [wrap_in (by omega) (by omega)]; omega
      have hlt' : i - 1 < p.1.length := by omega
      have q1 := parts_mem hp (List.getElem_mem hlt)
      have q2 := parts_mem hp (List.getElem_mem hlt')
      have := pairs_take p.2.2.2.2 p.1 i h0 hlt
      rw [condT (dT (by omega)), ew]
      have ih' := ih (i + 1) _ (by omega) ek
      rw [this] at ih'
      cases hn : ((i - 1 : Nat) : Int) != p.2.2.2.2 with
      | false => rw [hn] at ih'; rw [cond_false]; exact ih'
      | true =>
        rw [hn] at ih'
        rw [cond_true, condT (dT (by omega)), condT (dT (by omega)), getN _ _ _ hlt', condT (by rw [dT q1, dT q2]; rfl)]
        cases hc : comF p.1[i - 1] p.1[i] with
        | true => rw [hc] at ih'; exact ih'
        | false => rw [hc] at ih'; exact ih'
    · have : i = 0 := by omega
      subst this
      rw [condF (dF (by omega))]
      have ih' := ih 1 _ (by omega) ek
      have e0 : pairsF p.2.2.2.2 0 (p.1.take 1) 0 = pairsF p.2.2.2.2 0 (p.1.take 0) 0 := by
        cases p.1 with
        | nil => rfl
        | cons x l => rfl
      rw [e0] at ih'
      exact ih'
theorem r48 : R48 := by
  intro a0 h
  simp only [Bool.and_eq_true, decide_eq_true_eq] at h
  rw [f48_run, condT (dT h.1)]
  exact go48 a0 h.1 h.2 0 0 _ [] a0.1.length 0 [] (Nat.zero_add _) rfl
theorem r102 : R102 := by
  intro a0 a1 _
  rw [f102_run]
  have e : ∀ x, t119_0 x = false := fun x => by unfold t119_0 t119; simp
  rw [e, e]
  unfold cmpB
  cases bLess a0 a1 with
  | true => rfl
  | false => cases (a0 == a1) <;> rfl
theorem go75 (a b : List Bytes) (ha : a.length ≤ 1000) : ∀ (m i : Nat), i + m = a.length → i ≤ b.length →
    f75h0 a b a a.length i = some ⟨[.dat tI (cmpS (a.drop i) (b.drop i))], []⟩ := by
  intro m
  induction m with
  | zero =>
    intro i hi hb
    rw [f75h0_eq, condF (dlt_not (by omega)), dnil (xs := a) (i := i) (by omega)]
    by_cases h : i < b.length
    · rw [condT (dT (by omega)), dcons h]; rfl
    · rw [condF (dF (by omega)), dnil (xs := b) (i := i) (by omega)]; rfl
  | succ m ih =>
    intro i hi hb
    have hlt : i < a.length := by omega
    rw [f75h0_eq]
    rw [condT (dT (by first | omega | (simp only [List.length_append, List.length_cons, List.length_nil, List.length_set, List.length_take, List.length_drop, List.length_map]; omega) | (simp; omega)))]
    rw [condT (dT (by first | omega | (simp only [List.length_append, List.length_cons, List.length_nil, List.length_set, List.length_take, List.length_drop, List.length_map]; omega) | (simp; omega)))]
    rw [condT (dT (by first | omega | (simp only [List.length_append, List.length_cons, List.length_nil, List.length_set, List.length_take, List.length_drop, List.length_map]; omega) | (simp; omega)))]
    by_cases h : i < b.length
    · rw [condF (dF (by omega))]
      rw [condT (dT (by first | omega | (simp only [List.length_append, List.length_cons, List.length_nil, List.length_set, List.length_take, List.length_drop, List.length_map]; omega) | (simp; omega)))]
      rw [condT (dT (by first | omega | (simp only [List.length_append, List.length_cons, List.length_nil, List.length_set, List.length_take, List.length_drop, List.length_map]; omega) | (simp; omega)))]
      rw [getN _ _ _ hlt, getN _ _ _ h, wsucc (by omega), ih (i + 1) (by omega) (by omega), dcons hlt, dcons h, cmpS]
      show cond (!(cmpB a[i] b[i] == 0)) _ _ = _
      cases cmpB a[i] b[i] == 0 <;> rfl
    · rw [condT (dT (by omega)), dcons hlt, dnil (xs := b) (i := i) (by omega)]; rfl
theorem r75 : R75 := by
  intro a0 a1 h
  simp only [decide_eq_true_eq] at h
  rw [f75_run]
  exact go75 a0 a1 h a0.length 0 (by omega) (by omega)
theorem r49 : R49 := by
  intro a0 a1 h
  rw [f49_run]
  unfold lessR
  cases a0.1 != a1.1 with
  | true => rfl
  | false =>
    cases a0.2.1 != a1.2.1 with
    | true => rfl
    | false => simp only [cond_false]; rw [condT h]
theorem keysI_len (l : List Item) : (keysI l).length = l.length := by simp [keysI]
theorem r47 : R47 := by
  intro c1 c2 c3 c4 sm bl bp bk xs h
  have h' := h
  simp only [Bool.and_eq_true, decide_eq_true_eq] at h'
  rw [f47_run, condT h]
  unfold updF
  cases sm with
  | false => rfl
  | true =>
    rw [condT (a := cond _ _ _) (dT (by show (keysI xs).length ≤ 1000; rw [keysI_len]; exact h'.1))]
    have e : ((rankF (xs, (c1, (c2, (c3, c4))))).1, ((rankF (xs, (c1, (c2, (c3, c4))))).2.1, (rankF (xs, (c1, (c2, (c3, c4))))).2.2)) = rankF (xs, (c1, (c2, (c3, c4)))) := rfl
    rw [e]
    simp only [Bool.not_true, cond_false, Bool.false_or]
    cases lessR (rankF (xs, (c1, (c2, (c3, c4))))) (bl, (bp, bk)) <;> rfl

theorem swapL_swapL (xs : List Item) (i j : Nat) (hi : i < xs.length) (hj : j < xs.length) : swapL (swapL xs i j) i j = xs := by
  refine List.ext_getElem (by rw [swapL_len, swapL_len]) fun a h1 h2 => ?_
  rw [swapL_get _ i j a (by rw [swapL_len]; exact hi) (by rw [swapL_len]; exact hj) (by rw [swapL_len]; exact h2)]
  rw [swapL_get xs i j _ hi hj (by split; exact hi; split; exact hj; exact h2)]
  congr 1
  by_cases h3 : a = j
  · subst h3
    by_cases h4 : i = a <;> simp [h4]
  · by_cases h4 : a = i
    · subst h4; simp
    · simp [h3, h4]
theorem swapL_parts (xs : List Item) (i j : Nat) (hi : i < xs.length) (hj : j < xs.length) (h : partsOk xs = true) : partsOk (swapL xs i j) = true :=
  parts_of fun x hx => parts_mem h ((swapL_mem xs i j hi hj x).1 hx)
theorem dFT {p : Prop} [Decidable p] (h : decide p = true) : p := by simpa using h

theorem r46 : R46 := by
  intro fr xs c1 c2 c3 c4 sm bl bp bk h
  simp only [Bool.and_eq_true, decide_eq_true_eq] at h
  obtain ⟨⟨⟨⟨h1, h2⟩, h3⟩, h4⟩, h5⟩ := h
  have e : fr = (xs.length : Int) := by omega
  subst e
  rw [f46_run, condT (by simp), condT (by rw [h4, dT (p := xs.length ≤ 1000) (by omega)]; rfl)]
  rw [Int.toNat_natCast, Nat.sub_self]
  rfl

theorem go46a (c1 c2 c3 c4 : Int) (xs : List Item) (fr : Nat) (hf : fr < xs.length) (hl : xs.length - fr ≤ 1) (h5 : xs.length ≤ 5) (hp : partsOk xs = true) : ∀ (m i : Nat) (st : Bool × Rank), i + m = xs.length → fr ≤ i →
    f46ah0 fr i xs c1 c2 c3 c4 st.1 st.2.1 st.2.2.1 st.2.2.2 = some ⟨[], [(0, .arr tItem xs), (1, .box [.slc 0, .dat tI c1, .dat tI c2, .dat tI c3, .dat tI c4]),
      (2, .box [.dat .bool ((List.range' i m).foldl (fun st j => ordF (c1, (c2, (c3, c4))) (xs.length - (fr + 1)) (swapL xs fr j) (fr + 1) st) st).1]),
      (3, .box [.dat tI ((List.range' i m).foldl (fun st j => ordF (c1, (c2, (c3, c4))) (xs.length - (fr + 1)) (swapL xs fr j) (fr + 1) st) st).2.1, .dat tI ((List.range' i m).foldl (fun st j => ordF (c1, (c2, (c3, c4))) (xs.length - (fr + 1)) (swapL xs fr j) (fr + 1) st) st).2.2.1, .dat (.slice .str) ((List.range' i m).foldl (fun st j => ordF (c1, (c2, (c3, c4))) (xs.length - (fr + 1)) (swapL xs fr j) (fr + 1) st) st).2.2.2])]⟩ := by
  intro m
  induction m with
  | zero => intro i st hi hfi; rw [f46ah0_eq, condF (dlt_not (by omega))]; rfl
  | succ m ih =>
    intro i st hi hfi
    have hlt : i < xs.length := by omega
    have hlen := swapL_len xs fr i
    have hpp := swapL_parts xs fr i hf hlt hp
    have hss := swapL_swapL xs fr i hf hlt
    rw [f46ah0_eq, condT (dlt (by omega)), wsucc (i := fr) (by omega), wsucc (i := i) (by omega)]
    rw [Int.toNat_natCast i, Int.toNat_natCast fr, Int.toNat_natCast (fr + 1)]
    rw [show ((xs.set fr (xs.getD i (Tc.dflt tItem))).set i (xs.getD fr (Tc.dflt tItem))) = swapL xs fr i from rfl]
    rw [show (((swapL xs fr i).set fr ((swapL xs fr i).getD i (Tc.dflt tItem))).set i ((swapL xs fr i).getD fr (Tc.dflt tItem))) = xs from hss]
    have hg : (decide ((0 : Int) ≤ ((fr + 1 : Nat) : Int)) && decide (((fr + 1 : Nat) : Int) ≤ (List.length (swapL xs fr i) : Int)) && decide ((List.length (swapL xs fr i) : Int) - ((fr + 1 : Nat) : Int) ≤ 0) && partsOk (swapL xs fr i) && decide (List.length (swapL xs fr i) ≤ 5)) = true := by
      rw [hpp, hlen, dT (p := (0 : Int) ≤ ((fr + 1 : Nat) : Int)) (by omega), dT (p := ((fr + 1 : Nat) : Int) ≤ (xs.length : Int)) (by omega), dT (p := (xs.length : Int) - ((fr + 1 : Nat) : Int) ≤ 0) (by omega), dT h5]; rfl
    repeat (rw [condT (dT (by first | omega | (simp only [List.length_append, List.length_cons, List.length_nil, List.length_set, List.length_take, List.length_drop, List.length_map]; omega) | (simp; omega)))])
    rw [condT hg]
    repeat (rw [condT (dT (by first | omega | (simp only [List.length_append, List.length_cons, List.length_nil, List.length_set, List.length_take, List.length_drop, List.length_map]; omega) | (simp; omega)))])
    rw [hlen]
    rw [range1, List.foldl_cons]
    exact ih (i + 1) (ordF (c1, (c2, (c3, c4))) (xs.length - (fr + 1)) (swapL xs fr i) (fr + 1) st) (by omega) (by omega)
theorem r46a : R46a := by
  intro fr xs c1 c2 c3 c4 sm bl bp bk h
  simp only [Bool.and_eq_true, decide_eq_true_eq] at h
  obtain ⟨⟨⟨⟨h1, h2⟩, h3⟩, h4⟩, h5⟩ := h
  obtain ⟨n, rfl⟩ := Int.eq_ofNat_of_zero_le h1
  rw [f46a_run, Int.toNat_natCast]
  by_cases he : n = xs.length
  · subst he
    rw [condT (by simp), condT (by rw [h4, dT (p := xs.length ≤ 1000) (by omega)]; rfl), Nat.sub_self]
    rfl
  · rw [condF (by rw [beq_eq_false_iff_ne]; omega)]
    obtain ⟨k, hk⟩ : ∃ k, xs.length - n = k + 1 := ⟨xs.length - n - 1, by omega⟩
    have := go46a c1 c2 c3 c4 xs n (by omega) (by omega) h5 h4 (k + 1) n (sm, (bl, (bp, bk))) (by omega) (Nat.le_refl _)
    rw [show xs.length - (n + 1) = k by omega] at this
    rw [hk]
    exact this

theorem go46b (c1 c2 c3 c4 : Int) (xs : List Item) (fr : Nat) (hf : fr < xs.length) (hl : xs.length - fr ≤ 2) (h5 : xs.length ≤ 5) (hp : partsOk xs = true) : ∀ (m i : Nat) (st : Bool × Rank), i + m = xs.length → fr ≤ i →
    f46bh0 fr i xs c1 c2 c3 c4 st.1 st.2.1 st.2.2.1 st.2.2.2 = some ⟨[], [(0, .arr tItem xs), (1, .box [.slc 0, .dat tI c1, .dat tI c2, .dat tI c3, .dat tI c4]),
      (2, .box [.dat .bool ((List.range' i m).foldl (fun st j => ordF (c1, (c2, (c3, c4))) (xs.length - (fr + 1)) (swapL xs fr j) (fr + 1) st) st).1]),
      (3, .box [.dat tI ((List.range' i m).foldl (fun st j => ordF (c1, (c2, (c3, c4))) (xs.length - (fr + 1)) (swapL xs fr j) (fr + 1) st) st).2.1, .dat tI ((List.range' i m).foldl (fun st j => ordF (c1, (c2, (c3, c4))) (xs.length - (fr + 1)) (swapL xs fr j) (fr + 1) st) st).2.2.1, .dat (.slice .str) ((List.range' i m).foldl (fun st j => ordF (c1, (c2, (c3, c4))) (xs.length - (fr + 1)) (swapL xs fr j) (fr + 1) st) st).2.2.2])]⟩ := by
  intro m
  induction m with
  | zero => intro i st hi hfi; rw [f46bh0_eq, condF (dlt_not (by omega))]; rfl
  | succ m ih =>
    intro i st hi hfi
    have hlt : i < xs.length := by omega
    have hlen := swapL_len xs fr i
    have hpp := swapL_parts xs fr i hf hlt hp
    have hss := swapL_swapL xs fr i hf hlt
    rw [f46bh0_eq, condT (dlt (by omega)), wsucc (i := fr) (by omega), wsucc (i := i) (by omega)]
    rw [Int.toNat_natCast i, Int.toNat_natCast fr, Int.toNat_natCast (fr + 1)]
    rw [show ((xs.set fr (xs.getD i (Tc.dflt tItem))).set i (xs.getD fr (Tc.dflt tItem))) = swapL xs fr i from rfl]
    rw [show (((swapL xs fr i).set fr ((swapL xs fr i).getD i (Tc.dflt tItem))).set i ((swapL xs fr i).getD fr (Tc.dflt tItem))) = xs from hss]
    have hg : (decide ((0 : Int) ≤ ((fr + 1 : Nat) : Int)) && decide (((fr + 1 : Nat) : Int) ≤ (List.length (swapL xs fr i) : Int)) && decide ((List.length (swapL xs fr i) : Int) - ((fr + 1 : Nat) : Int) ≤ 1) && partsOk (swapL xs fr i) && decide (List.length (swapL xs fr i) ≤ 5)) = true := by
      rw [hpp, hlen, dT (p := (0 : Int) ≤ ((fr + 1 : Nat) : Int)) (by omega), dT (p := ((fr + 1 : Nat) : Int) ≤ (xs.length : Int)) (by omega), dT (p := (xs.length : Int) - ((fr + 1 : Nat) : Int) ≤ 1) (by omega), dT h5]; rfl
    repeat (rw [condT (dT (by first | omega | (simp only [List.length_append, List.length_cons, List.length_nil, List.length_set, List.length_take, List.length_drop, List.length_map]; omega) | (simp; omega)))])
    rw [condT hg]
    repeat (rw [condT (dT (by first | omega | (simp only [List.length_append, List.length_cons, List.length_nil, List.length_set, List.length_take, List.length_drop, List.length_map]; omega) | (simp; omega)))])
    rw [hlen]
    rw [range1, List.foldl_cons]
    exact ih (i + 1) (ordF (c1, (c2, (c3, c4))) (xs.length - (fr + 1)) (swapL xs fr i) (fr + 1) st) (by omega) (by omega)
theorem r46b : R46b := by
  intro fr xs c1 c2 c3 c4 sm bl bp bk h
  simp only [Bool.and_eq_true, decide_eq_true_eq] at h
  obtain ⟨⟨⟨⟨h1, h2⟩, h3⟩, h4⟩, h5⟩ := h
  obtain ⟨n, rfl⟩ := Int.eq_ofNat_of_zero_le h1
  rw [f46b_run, Int.toNat_natCast]
  by_cases he : n = xs.length
  · subst he
    rw [condT (by simp), condT (by rw [h4, dT (p := xs.length ≤ 1000) (by omega)]; rfl), Nat.sub_self]
    rfl
  · rw [condF (by rw [beq_eq_false_iff_ne]; omega)]
    obtain ⟨k, hk⟩ : ∃ k, xs.length - n = k + 1 := ⟨xs.length - n - 1, by omega⟩
    have := go46b c1 c2 c3 c4 xs n (by omega) (by omega) h5 h4 (k + 1) n (sm, (bl, (bp, bk))) (by omega) (Nat.le_refl _)
    rw [show xs.length - (n + 1) = k by omega] at this
    rw [hk]
    exact this

theorem go46c (c1 c2 c3 c4 : Int) (xs : List Item) (fr : Nat) (hf : fr < xs.length) (hl : xs.length - fr ≤ 3) (h5 : xs.length ≤ 5) (hp : partsOk xs = true) : ∀ (m i : Nat) (st : Bool × Rank), i + m = xs.length → fr ≤ i →
    f46ch0 fr i xs c1 c2 c3 c4 st.1 st.2.1 st.2.2.1 st.2.2.2 = some ⟨[], [(0, .arr tItem xs), (1, .box [.slc 0, .dat tI c1, .dat tI c2, .dat tI c3, .dat tI c4]),
      (2, .box [.dat .bool ((List.range' i m).foldl (fun st j => ordF (c1, (c2, (c3, c4))) (xs.length - (fr + 1)) (swapL xs fr j) (fr + 1) st) st).1]),
      (3, .box [.dat tI ((List.range' i m).foldl (fun st j => ordF (c1, (c2, (c3, c4))) (xs.length - (fr + 1)) (swapL xs fr j) (fr + 1) st) st).2.1, .dat tI ((List.range' i m).foldl (fun st j => ordF (c1, (c2, (c3, c4))) (xs.length - (fr + 1)) (swapL xs fr j) (fr + 1) st) st).2.2.1, .dat (.slice .str) ((List.range' i m).foldl (fun st j => ordF (c1, (c2, (c3, c4))) (xs.length - (fr + 1)) (swapL xs fr j) (fr + 1) st) st).2.2.2])]⟩ := by
  intro m
  induction m with
  | zero => intro i st hi hfi; rw [f46ch0_eq, condF (dlt_not (by omega))]; rfl
  | succ m ih =>
    intro i st hi hfi
    have hlt : i < xs.length := by omega
    have hlen := swapL_len xs fr i
    have hpp := swapL_parts xs fr i hf hlt hp
    have hss := swapL_swapL xs fr i hf hlt
    rw [f46ch0_eq, condT (dlt (by omega)), wsucc (i := fr) (by omega), wsucc (i := i) (by omega)]
    rw [Int.toNat_natCast i, Int.toNat_natCast fr, Int.toNat_natCast (fr + 1)]
    rw [show ((xs.set fr (xs.getD i (Tc.dflt tItem))).set i (xs.getD fr (Tc.dflt tItem))) = swapL xs fr i from rfl]
    rw [show (((swapL xs fr i).set fr ((swapL xs fr i).getD i (Tc.dflt tItem))).set i ((swapL xs fr i).getD fr (Tc.dflt tItem))) = xs from hss]
    have hg : (decide ((0 : Int) ≤ ((fr + 1 : Nat) : Int)) && decide (((fr + 1 : Nat) : Int) ≤ (List.length (swapL xs fr i) : Int)) && decide ((List.length (swapL xs fr i) : Int) - ((fr + 1 : Nat) : Int) ≤ 2) && partsOk (swapL xs fr i) && decide (List.length (swapL xs fr i) ≤ 5)) = true := by
      rw [hpp, hlen, dT (p := (0 : Int) ≤ ((fr + 1 : Nat) : Int)) (by omega), dT (p := ((fr + 1 : Nat) : Int) ≤ (xs.length : Int)) (by omega), dT (p := (xs.length : Int) - ((fr + 1 : Nat) : Int) ≤ 2) (by omega), dT h5]; rfl
    repeat (rw [condT (dT (by first | omega | (simp only [List.length_append, List.length_cons, List.length_nil, List.length_set, List.length_take, List.length_drop, List.length_map]; omega) | (simp; omega)))])
    rw [condT hg]
    repeat (rw [condT (dT (by first | omega | (simp only [List.length_append, List.length_cons, List.length_nil, List.length_set, List.length_take, List.length_drop, List.length_map]; omega) | (simp; omega)))])
    rw [hlen]
    rw [range1, List.foldl_cons]
    exact ih (i + 1) (ordF (c1, (c2, (c3, c4))) (xs.length - (fr + 1)) (swapL xs fr i) (fr + 1) st) (by omega) (by omega)
theorem r46c : R46c := by
  intro fr xs c1 c2 c3 c4 sm bl bp bk h
  simp only [Bool.and_eq_true, decide_eq_true_eq] at h
  obtain ⟨⟨⟨⟨h1, h2⟩, h3⟩, h4⟩, h5⟩ := h
  obtain ⟨n, rfl⟩ := Int.eq_ofNat_of_zero_le h1
  rw [f46c_run, Int.toNat_natCast]
  by_cases he : n = xs.length
  · subst he
    rw [condT (by simp), condT (by rw [h4, dT (p := xs.length ≤ 1000) (by omega)]; rfl), Nat.sub_self]
    rfl
  · rw [condF (by rw [beq_eq_false_iff_ne]; omega)]
    obtain ⟨k, hk⟩ : ∃ k, xs.length - n = k + 1 := ⟨xs.length - n - 1, by omega⟩
    have := go46c c1 c2 c3 c4 xs n (by omega) (by omega) h5 h4 (k + 1) n (sm, (bl, (bp, bk))) (by omega) (Nat.le_refl _)
    rw [show xs.length - (n + 1) = k by omega] at this
    rw [hk]
    exact this

theorem go46d (c1 c2 c3 c4 : Int) (xs : List Item) (fr : Nat) (hf : fr < xs.length) (hl : xs.length - fr ≤ 4) (h5 : xs.length ≤ 5) (hp : partsOk xs = true) : ∀ (m i : Nat) (st : Bool × Rank), i + m = xs.length → fr ≤ i →
    f46dh0 fr i xs c1 c2 c3 c4 st.1 st.2.1 st.2.2.1 st.2.2.2 = some ⟨[], [(0, .arr tItem xs), (1, .box [.slc 0, .dat tI c1, .dat tI c2, .dat tI c3, .dat tI c4]),
      (2, .box [.dat .bool ((List.range' i m).foldl (fun st j => ordF (c1, (c2, (c3, c4))) (xs.length - (fr + 1)) (swapL xs fr j) (fr + 1) st) st).1]),
      (3, .box [.dat tI ((List.range' i m).foldl (fun st j => ordF (c1, (c2, (c3, c4))) (xs.length - (fr + 1)) (swapL xs fr j) (fr + 1) st) st).2.1, .dat tI ((List.range' i m).foldl (fun st j => ordF (c1, (c2, (c3, c4))) (xs.length - (fr + 1)) (swapL xs fr j) (fr + 1) st) st).2.2.1, .dat (.slice .str) ((List.range' i m).foldl (fun st j => ordF (c1, (c2, (c3, c4))) (xs.length - (fr + 1)) (swapL xs fr j) (fr + 1) st) st).2.2.2])]⟩ := by
  intro m
  induction m with
  | zero => intro i st hi hfi; rw [f46dh0_eq, condF (dlt_not (by omega))]; rfl
  | succ m ih =>
    intro i st hi hfi
    have hlt : i < xs.length := by omega
    have hlen := swapL_len xs fr i
    have hpp := swapL_parts xs fr i hf hlt hp
    have hss := swapL_swapL xs fr i hf hlt
    rw [f46dh0_eq, condT (dlt (by omega)), wsucc (i := fr) (by omega), wsucc (i := i) (by omega)]
    rw [Int.toNat_natCast i, Int.toNat_natCast fr, Int.toNat_natCast (fr + 1)]
    rw [show ((xs.set fr (xs.getD i (Tc.dflt tItem))).set i (xs.getD fr (Tc.dflt tItem))) = swapL xs fr i from rfl]
    rw [show (((swapL xs fr i).set fr ((swapL xs fr i).getD i (Tc.dflt tItem))).set i ((swapL xs fr i).getD fr (Tc.dflt tItem))) = xs from hss]
    have hg : (decide ((0 : Int) ≤ ((fr + 1 : Nat) : Int)) && decide (((fr + 1 : Nat) : Int) ≤ (List.length (swapL xs fr i) : Int)) && decide ((List.length (swapL xs fr i) : Int) - ((fr + 1 : Nat) : Int) ≤ 3) && partsOk (swapL xs fr i) && decide (List.length (swapL xs fr i) ≤ 5)) = true := by
      rw [hpp, hlen, dT (p := (0 : Int) ≤ ((fr + 1 : Nat) : Int)) (by omega), dT (p := ((fr + 1 : Nat) : Int) ≤ (xs.length : Int)) (by omega), dT (p := (xs.length : Int) - ((fr + 1 : Nat) : Int) ≤ 3) (by omega), dT h5]; rfl
    repeat (rw [condT (dT (by first | omega | (simp only [List.length_append, List.length_cons, List.length_nil, List.length_set, List.length_take, List.length_drop, List.length_map]; omega) | (simp; omega)))])
    rw [condT hg]
    repeat (rw [condT (dT (by first | omega | (simp only [List.length_append, List.length_cons, List.length_nil, List.length_set, List.length_take, List.length_drop, List.length_map]; omega) | (simp; omega)))])
    rw [hlen]
    rw [range1, List.foldl_cons]
    exact ih (i + 1) (ordF (c1, (c2, (c3, c4))) (xs.length - (fr + 1)) (swapL xs fr i) (fr + 1) st) (by omega) (by omega)
theorem r46d : R46d := by
  intro fr xs c1 c2 c3 c4 sm bl bp bk h
  simp only [Bool.and_eq_true, decide_eq_true_eq] at h
  obtain ⟨⟨⟨⟨h1, h2⟩, h3⟩, h4⟩, h5⟩ := h
  obtain ⟨n, rfl⟩ := Int.eq_ofNat_of_zero_le h1
  rw [f46d_run, Int.toNat_natCast]
  by_cases he : n = xs.length
  · subst he
    rw [condT (by simp), condT (by rw [h4, dT (p := xs.length ≤ 1000) (by omega)]; rfl), Nat.sub_self]
    rfl
  · rw [condF (by rw [beq_eq_false_iff_ne]; omega)]
    obtain ⟨k, hk⟩ : ∃ k, xs.length - n = k + 1 := ⟨xs.length - n - 1, by omega⟩
    have := go46d c1 c2 c3 c4 xs n (by omega) (by omega) h5 h4 (k + 1) n (sm, (bl, (bp, bk))) (by omega) (Nat.le_refl _)
    rw [show xs.length - (n + 1) = k by omega] at this
    rw [hk]
    exact this

theorem go46e (c1 c2 c3 c4 : Int) (xs : List Item) (fr : Nat) (hf : fr < xs.length) (hl : xs.length - fr ≤ 5) (h5 : xs.length ≤ 5) (hp : partsOk xs = true) : ∀ (m i : Nat) (st : Bool × Rank), i + m = xs.length → fr ≤ i →
    f46eh0 fr i xs c1 c2 c3 c4 st.1 st.2.1 st.2.2.1 st.2.2.2 = some ⟨[], [(0, .arr tItem xs), (1, .box [.slc 0, .dat tI c1, .dat tI c2, .dat tI c3, .dat tI c4]),
      (2, .box [.dat .bool ((List.range' i m).foldl (fun st j => ordF (c1, (c2, (c3, c4))) (xs.length - (fr + 1)) (swapL xs fr j) (fr + 1) st) st).1]),
      (3, .box [.dat tI ((List.range' i m).foldl (fun st j => ordF (c1, (c2, (c3, c4))) (xs.length - (fr + 1)) (swapL xs fr j) (fr + 1) st) st).2.1, .dat tI ((List.range' i m).foldl (fun st j => ordF (c1, (c2, (c3, c4))) (xs.length - (fr + 1)) (swapL xs fr j) (fr + 1) st) st).2.2.1, .dat (.slice .str) ((List.range' i m).foldl (fun st j => ordF (c1, (c2, (c3, c4))) (xs.length - (fr + 1)) (swapL xs fr j) (fr + 1) st) st).2.2.2])]⟩ := by
  intro m
  induction m with
  | zero => intro i st hi hfi; rw [f46eh0_eq, condF (dlt_not (by omega))]; rfl
  | succ m ih =>
    intro i st hi hfi
    have hlt : i < xs.length := by omega
    have hlen := swapL_len xs fr i
    have hpp := swapL_parts xs fr i hf hlt hp
    have hss := swapL_swapL xs fr i hf hlt
    rw [f46eh0_eq, condT (dlt (by omega)), wsucc (i := fr) (by omega), wsucc (i := i) (by omega)]
    rw [Int.toNat_natCast i, Int.toNat_natCast fr, Int.toNat_natCast (fr + 1)]
    rw [show ((xs.set fr (xs.getD i (Tc.dflt tItem))).set i (xs.getD fr (Tc.dflt tItem))) = swapL xs fr i from rfl]
    rw [show (((swapL xs fr i).set fr ((swapL xs fr i).getD i (Tc.dflt tItem))).set i ((swapL xs fr i).getD fr (Tc.dflt tItem))) = xs from hss]
    have hg : (decide ((0 : Int) ≤ ((fr + 1 : Nat) : Int)) && decide (((fr + 1 : Nat) : Int) ≤ (List.length (swapL xs fr i) : Int)) && decide ((List.length (swapL xs fr i) : Int) - ((fr + 1 : Nat) : Int) ≤ 4) && partsOk (swapL xs fr i) && decide (List.length (swapL xs fr i) ≤ 5)) = true := by
      rw [hpp, hlen, dT (p := (0 : Int) ≤ ((fr + 1 : Nat) : Int)) (by omega), dT (p := ((fr + 1 : Nat) : Int) ≤ (xs.length : Int)) (by omega), dT (p := (xs.length : Int) - ((fr + 1 : Nat) : Int) ≤ 4) (by omega), dT h5]; rfl
    repeat (rw [condT (dT (by first | omega | (simp only [List.length_append, List.length_cons, List.length_nil, List.length_set, List.length_take, List.length_drop, List.length_map]; omega) | (simp; omega)))])
    rw [condT hg]
    repeat (rw [condT (dT (by first | omega | (simp only [List.length_append, List.length_cons, List.length_nil, List.length_set, List.length_take, List.length_drop, List.length_map]; omega) | (simp; omega)))])
    rw [hlen]
    rw [range1, List.foldl_cons]
    exact ih (i + 1) (ordF (c1, (c2, (c3, c4))) (xs.length - (fr + 1)) (swapL xs fr i) (fr + 1) st) (by omega) (by omega)
theorem r46e : R46e := by
  intro fr xs c1 c2 c3 c4 sm bl bp bk h
  simp only [Bool.and_eq_true, decide_eq_true_eq] at h
  obtain ⟨⟨⟨⟨h1, h2⟩, h3⟩, h4⟩, h5⟩ := h
  obtain ⟨n, rfl⟩ := Int.eq_ofNat_of_zero_le h1
  rw [f46e_run, Int.toNat_natCast]
  by_cases he : n = xs.length
  · subst he
    rw [condT (by simp), condT (by rw [h4, dT (p := xs.length ≤ 1000) (by omega)]; rfl), Nat.sub_self]
    rfl
  · rw [condF (by rw [beq_eq_false_iff_ne]; omega)]
    obtain ⟨k, hk⟩ : ∃ k, xs.length - n = k + 1 := ⟨xs.length - n - 1, by omega⟩
    have := go46e c1 c2 c3 c4 xs n (by omega) (by omega) h5 h4 (k + 1) n (sm, (bl, (bp, bk))) (by omega) (Nat.le_refl _)
    rw [show xs.length - (n + 1) = k by omega] at this
    rw [hk]
    exact this

theorem part_len (key : Bytes → Bool) (l : List Bytes) (h : partsF key l = 0) : l.length ≤ 12 := by
  unfold partsF at h
  cases h1 : (l.length : Int) == 0 with
  | true => rw [h1] at h; cases h
  | false =>
    rw [h1] at h
    cases h2 : decide ((l.length : Int) > 12) with
    | true => rw [h2] at h; cases h
    | false => have : ¬ (l.length : Int) > 12 := by simpa using h2
               omega
theorem items_ok (key : Bytes → Bool) : ∀ (l pre : List Item), itemsGo key pre l = 0 → (∀ a ∈ pre, ∀ x ∈ l, a.1 ≠ x.1) ∧ List.Pairwise (fun a b : Item => a.1 ≠ b.1) l ∧ ∀ x ∈ l, x.2.2.2.length ≤ 12
  | [], pre, _ => ⟨fun _ _ _ h => (by cases h), List.Pairwise.nil, fun _ h => (by cases h)⟩
  | x :: l, pre, h => by
    rw [itemsGo] at h
    cases h1 : !key x.1 || !key x.2.1 with
    | true => rw [h1] at h; cases h
    | false =>
      rw [h1, cond_false] at h
      cases h2 : pre.any fun o => o.1 == x.1 with
      | true => rw [h2] at h; cases h
      | false =>
        rw [h2, cond_false] at h
        cases h3 : outside x.2.2.1 1 86400000 with
        | true => rw [h3] at h; cases h
        | false =>
          rw [h3, cond_false] at h
          cases h4 : partsF key x.2.2.2 != 0 with
          | true => rw [h4, cond_true] at h; rw [h] at h4; cases h4
          | false =>
            rw [h4, cond_false] at h
            obtain ⟨g1, g2, g3⟩ := items_ok key l (pre ++ [x]) h
            have hp : partsF key x.2.2.2 = 0 := by
              have : (!(partsF key x.2.2.2 == 0)) = false := h4
              simpa using this
            refine ⟨fun a ha y hy => ?_, List.Pairwise.cons (fun y hy => g1 x (List.mem_append_right _ (List.mem_singleton.2 rfl)) y hy) g2, fun y hy => ?_⟩
            · rcases List.mem_cons.1 hy with rfl | hy
              · have := List.any_eq_false.1 h2 a ha
                simpa using this
              · exact g1 a (List.mem_append_left _ ha) y hy
            · rcases List.mem_cons.1 hy with rfl | hy
              · exact part_len key _ hp
              · exact g3 y hy
theorem prog_ok {p : Prgm} (h : checkProg keyR p = 0) : KN p.1 ∧ partsOk p.1 = true := by
  unfold checkProg at h
  have hc : checkItems keyR p.1 = 0 := by
    cases h1 : checkItems keyR p.1 != 0 with
    | true => rw [h1, cond_true] at h; exact h
    | false => have : (!(checkItems keyR p.1 == 0)) = false := h1
               simpa using this
  unfold checkItems at hc
  cases h2 : decide ((p.1.length : Int) > 60) with
  | true => rw [h2] at hc; cases hc
  | false =>
    rw [h2, cond_false] at hc
    obtain ⟨_, g2, g3⟩ := items_ok keyR p.1 [] hc
    refine ⟨fun a b ha hb e => ?_, parts_of fun x hx => by have := g3 x hx; omega⟩
    rw [List.pairwise_iff_getElem] at g2
    by_cases hab : a = b
    · exact hab
    · rcases Nat.lt_or_gt_of_ne hab with hlt | hgt
      · exact absurd e (g2 a b ha hb hlt)
      · exact absurd e.symm (g2 b a hb ha hgt)
theorem r23 : R23 := by
  intro a0 h
  simp only [decide_eq_true_eq] at h
  rw [f23_run, eta_pr]
  unfold ordR
  cases hc : checkProg isKey a0 != 0 with
  | true => rfl
  | false =>
    have hk : checkProg keyR a0 = 0 := by
      rw [isKey_fun] at hc
      have : (!(checkProg keyR a0 == 0)) = false := hc
      simpa using this
    have hp := (prog_ok hk).2
    rw [cond_false, condF (dF (by omega)), condT (dT (by omega)), condT (by rw [hp, dT (p := (0 : Int) ≤ 0) (by omega), dT (p := (0 : Int) ≤ (a0.1.length : Int)) (by omega), dT (p := (a0.1.length : Int) - 0 ≤ 5) (by omega), dT h]; rfl)]
    rfl

end Go.Ev.X

set_option linter.unusedVariables false
set_option linter.unusedSimpArgs false
namespace Go.Ev.X
open Go Go.Ev Go.Proofs
theorem go44a (xs : List Item) (hb : xs.length ≤ 1000) (k : Bytes) : ∀ (m i : Nat), i + m = xs.length →
    f44ah0 xs xs.length i k = some ⟨[.dat tI (idxBy (fun o => t76_0 o k) (xs.drop i) i)], [(0, .box [.dat .str k])]⟩ := by
  intro m
  induction m with
  | zero => intro i hi; rw [f44ah0_eq, condF (dlt_not (by omega)), dnil (xs := xs) (i := i) (by omega)]; rfl
  | succ m ih =>
    intro i hi
    have hlt : i < xs.length := by omega
    rw [f44ah0_eq]
    rw [condT (dT (by first | omega | (simp only [List.length_append, List.length_cons, List.length_nil, List.length_set, List.length_take, List.length_drop, List.length_map]; omega) | (simp; omega)))]
    rw [condT (dT (by first | omega | (simp only [List.length_append, List.length_cons, List.length_nil, List.length_set, List.length_take, List.length_drop, List.length_map]; omega) | (simp; omega)))]
    rw [condT (dT (by first | omega | (simp only [List.length_append, List.length_cons, List.length_nil, List.length_set, List.length_take, List.length_drop, List.length_map]; omega) | (simp; omega)))]
    rw [getN _ _ _ hlt, wsucc (by omega), ih (i + 1) (by omega), dcons hlt]
    simp only [idxBy]
    cases t76_0 xs[i] k <;> rfl
theorem r44a : R44a := by
  intro a0 k h
  simp only [decide_eq_true_eq] at h
  rw [f44a_run]
  exact go44a a0 h k a0.length 0 (by omega)
def movOut (p : Prgm) (r : List Item × Int) : Prgm × Int := cond (r.2 != 0) (zeroP, r.2) ((r.1, p.2), 0)
theorem ix_lt (xs : List Item) (k : Bytes) (h : ¬ itemIx xs k < 0) : 0 ≤ itemIx xs k ∧ itemIx xs k < (xs.length : Int) := by
  rcases idxBy_split (fun (o : Item) => o.1 == k) xs 0 with ⟨h1, _⟩ | ⟨n, h1, h2, _⟩
  · exfalso; apply h; show idxBy (fun (o : Item) => o.1 == k) xs 0 < 0; rw [h1]; decide
  · have : itemIx xs k = ((0 + n : Nat) : Int) := h2
    omega
theorem getD_mem (xs : List Item) (k : Bytes) (h : ¬ itemIx xs k < 0) : xs.getD (itemIx xs k).toNat (Tc.dflt tItem) ∈ xs := by
  have := ix_lt xs k h
  have hl : (itemIx xs k).toNat < xs.length := by omega
  rw [List.getD_eq_getElem?_getD, List.getElem?_eq_getElem hl]
  exact List.getElem_mem hl
theorem go124 (p : Prgm) (hp : partsOk p.1 = true) (hb : p.1.length ≤ 1000) (o : List Bytes) (ho : o.length ≤ 1000) (e : List Item) : ∀ (m i : Nat) (acc : List Item), i + m = o.length → acc.length ≤ i →
    f24h0x1 o o o.length i p.1 p.2.1 p.2.2.1 p.2.2.2.1 p.2.2.2.2 0 0 0 0 p.2.1 p.2.2.1 p.2.2.2.1 p.2.2.2.2 e acc =
      some ⟨[.dat tPrgm (movOut p (movGo p.1 (o.take i) (o.drop i) acc)).1, .dat tI (movOut p (movGo p.1 (o.take i) (o.drop i) acc)).2], []⟩ := by
  intro m
  induction m with
  | zero => intro i acc hi ha; rw [f24h0x1_eq, condF (dlt_not (by omega)), dnil (xs := o) (i := i) (by omega)]; rfl
  | succ m ih =>
    intro i acc hi ha
    have hlt : i < o.length := by omega
    have q1 : t50_ok p o[i] = true ∧ t50_0 p o[i] = itemIx p.1 o[i] := by
      unfold t50_ok t50_0 t50; rw [dT hb]; exact ⟨rfl, rfl⟩
    rw [f24h0x1_eq]
    rw [condT (dT (by first | omega | (simp only [List.length_append, List.length_cons, List.length_nil, List.length_set, List.length_take, List.length_drop, List.length_map]; omega) | (simp; omega)))]
    rw [condT (dT (by first | omega | (simp only [List.length_append, List.length_cons, List.length_nil, List.length_set, List.length_take, List.length_drop, List.length_map]; omega) | (simp; omega)))]
    rw [condT (dT (by first | omega | (simp only [List.length_append, List.length_cons, List.length_nil, List.length_set, List.length_take, List.length_drop, List.length_map]; omega) | (simp; omega)))]
    rw [getN _ _ _ hlt, eta_pr, condT q1.1, q1.2, dcons hlt, movGo]
    by_cases hx : itemIx p.1 o[i] < 0
    · rw [condT (dT hx), dT hx]; rfl
    · have r1 := ix_lt p.1 o[i] hx
      have r2 := parts_mem hp (getD_mem p.1 o[i] hx)
      rw [condF (dF hx), dF hx]
      rw [condT (dT (by first | omega | (simp only [List.length_append, List.length_cons, List.length_nil, List.length_set, List.length_take, List.length_drop, List.length_map]; omega) | (simp; omega)))]
      rw [condT (dT (by first | omega | (simp only [List.length_append, List.length_cons, List.length_nil, List.length_set, List.length_take, List.length_drop, List.length_map]; omega) | (simp; omega)))]
      rw [condT (dT (by first | omega | (simp only [List.length_append, List.length_cons, List.length_nil, List.length_set, List.length_take, List.length_drop, List.length_map]; omega) | (simp; omega)))]
      rw [Int.toNat_natCast, Int.toNat_zero, List.drop_zero, condT (dT (by rw [List.length_take]; omega))]
      simp only [cond_false]
      cases hh : hasS (o.take i) o[i] with
      | true => rfl
      | false =>
        have q3 : t51_ok (p.1.getD (itemIx p.1 o[i]).toNat (Tc.dflt tItem)) = true ∧ t51_0 (p.1.getD (itemIx p.1 o[i]).toNat (Tc.dflt tItem)) = p.1.getD (itemIx p.1 o[i]).toNat (Tc.dflt tItem) := by
          unfold t51_ok t51_0 t51; rw [dT r2]; exact ⟨rfl, rfl⟩
        rw [cond_false, cond_false, condT (dT r1.1), condT (dT r1.2), condT q3.1, q3.2, condT (dT (by simp; omega)), wsucc (by omega)]
        have := ih (i + 1) (acc ++ [p.1.getD (itemIx p.1 o[i]).toNat (Tc.dflt tItem)]) (by omega) (by simp; omega)
        rw [List.take_succ_eq_append_getElem hlt] at this
        exact this
theorem go024 (p : Prgm) (hp : partsOk p.1 = true) (hb : p.1.length ≤ 1000) (o : List Bytes) (ho : o.length ≤ 1000) :
    f24h0 o o o.length 0 p.1 p.2.1 p.2.2.1 p.2.2.2.1 p.2.2.2.2 0 0 0 0 p.2.1 p.2.2.1 p.2.2.2.1 p.2.2.2.2 [] =
      some ⟨[.dat tPrgm (movOut p (movGo p.1 [] o [])).1, .dat tI (movOut p (movGo p.1 [] o [])).2], []⟩ := by
  cases o with
  | nil => rw [f24h0_eq, condF (dF (by simp))]; rfl
  | cons k o =>
    have hlt : 0 < (k :: o).length := by simp
    have q1 : t50_ok p k = true ∧ t50_0 p k = itemIx p.1 k := by
      unfold t50_ok t50_0 t50; rw [dT hb]; exact ⟨rfl, rfl⟩
    have e0 : (0 : Int) = ((0 : Nat) : Int) := rfl
    rw [f24h0_eq, condT (dT (by simp)), condT (dT (by omega)), condT (dT (by simp))]
    have eg : List.getD (k :: o) (Int.toNat (0 : Int)) (Tc.dflt .str) = k := rfl
    rw [eg, eta_pr, condT q1.1, q1.2, movGo]
    by_cases hx : itemIx p.1 k < 0
    · rw [condT (dT hx), dT hx]; rfl
    · have r1 := ix_lt p.1 k hx
      have r2 := parts_mem hp (getD_mem p.1 k hx)
      rw [condF (dF hx), dF hx, condT (dT (by omega)), condT (dT (by omega)), condT (dT (by simp; omega)), condT (dT (by simp))]
      have eh : hasS (List.drop (Int.toNat (0 : Int)) (List.take (Int.toNat (0 : Int)) (k :: o))) k = false := rfl
      have eh2 : hasS [] k = false := rfl
      have q3 : t51_ok (p.1.getD (itemIx p.1 k).toNat (Tc.dflt tItem)) = true ∧ t51_0 (p.1.getD (itemIx p.1 k).toNat (Tc.dflt tItem)) = p.1.getD (itemIx p.1 k).toNat (Tc.dflt tItem) := by
        unfold t51_ok t51_0 t51; rw [dT r2]; exact ⟨rfl, rfl⟩
      rw [eh, eh2, cond_false, cond_false, cond_false, condT (dT r1.1), condT (dT r1.2), condT q3.1, q3.2, condT (dT (by simp))]
      have := go124 p hp hb (k :: o) ho [] o.length 1 [p.1.getD (itemIx p.1 k).toNat (Tc.dflt tItem)] (by simp; omega) (by simp)
      exact this
theorem r24 : R24 := by
  intro a0 a1 h
  simp only [decide_eq_true_eq] at h
  rw [f24_run, eta_pr]
  unfold movP movR
  cases hc : checkProg isKey a0 != 0 with
  | true => rfl
  | false =>
    have hk : checkProg keyR a0 = 0 := by
      rw [isKey_fun] at hc
      have : (!(checkProg keyR a0 == 0)) = false := hc
      simpa using this
    rw [cond_false, cond_false]
    cases hn : (a1.length : Int) != (a0.1.length : Int) with
    | true => rfl
    | false => exact go024 a0 (prog_ok hk).2 (by have := prog60 hk; omega) a1 h
def QOr (L : List Int) (n : Nat) (a b : Int) (f : Fr) : Prop := ∃ (a' : Int) (l : List Int), f = ⟨[.dat (.slice tI) l], [(0, .box [.dat (.slice tI) L, .dat tI a'])]⟩ ∧ a ≤ a' ∧ a' ≤ b ∧ l.length = n ∧ (∀ x ∈ l, 0 ≤ x ∧ x < (n : Int)) ∧ l.Nodup
theorem QOr_mono {L : List Int} {n : Nat} {a b c d : Int} (h1 : c ≤ a) (h2 : b ≤ d) {o : Option Fr} (h : Ends (QOr L n a b) o) : Ends (QOr L n c d) o := by
  refine ends_mono h ?_
  rintro f ⟨a', l, e, h3, h4, h5⟩
  exact ⟨a', l, e, by omega, by omega, h5⟩
theorem getD_inI {l : List Int} {n : Int} (hr : ∀ x ∈ l, 0 ≤ x ∧ x < n) {j : Nat} (h : j < l.length) (d : Int) : 0 ≤ l.getD j d ∧ l.getD j d < n := by
  rw [List.getD_eq_getElem?_getD, List.getElem?_eq_getElem h]
  exact hr _ (List.getElem_mem h)
theorem set_in {l : List Int} {n : Int} (hr : ∀ x ∈ l, 0 ≤ x ∧ x < n) {v : Int} (hv : 0 ≤ v ∧ v < n) (j : Nat) : ∀ x ∈ l.set j v, 0 ≤ x ∧ x < n := by
  intro x hx
  rcases List.mem_or_eq_of_mem_set hx with h | rfl
  · exact hr x h
  · exact hv
theorem nd_inj {l : List Int} (h : l.Nodup) {x y : Nat} (hx : x < l.length) (hy : y < l.length) (e : l[x] = l[y]) : x = y := by
  have hp := List.pairwise_iff_getElem.1 h
  rcases Nat.lt_trichotomy x y with h1 | h1 | h1
  · exact absurd e (hp x y hx hy h1)
  · exact h1
  · exact absurd e.symm (hp y x hy hx h1)
theorem nd_of {l : List Int} (h : ∀ (x y : Nat) (hx : x < l.length) (hy : y < l.length), l[x] = l[y] → x = y) : l.Nodup := by
  refine List.pairwise_iff_getElem.2 fun x y hx hy hlt e => ?_
  have := h x y hx hy e
  omega
theorem swap_nd {l : List Int} (d : Int) (h : l.Nodup) {i k : Nat} (hi : i < l.length) (hk : k < l.length) : ((l.set i (l.getD k d)).set k (l.getD i d)).Nodup := by
  have ei : l.getD i d = l[i] := by rw [List.getD_eq_getElem?_getD, List.getElem?_eq_getElem hi]; rfl
  have ek : l.getD k d = l[k] := by rw [List.getD_eq_getElem?_getD, List.getElem?_eq_getElem hk]; rfl
  rw [ei, ek]
  have key : ∀ (x : Nat) (hx : x < ((l.set i l[k]).set k l[i]).length), ∃ (y : Nat) (hy : y < l.length), ((l.set i l[k]).set k l[i])[x] = l[y] ∧ y = (if k = x then i else if i = x then k else x) := by
    intro x hx
    have hx' : x < l.length := by simpa using hx
    rw [List.getElem_set]
    by_cases h1 : k = x
    · exact ⟨i, hi, by rw [if_pos h1], by rw [if_pos h1]⟩
    · rw [if_neg h1, List.getElem_set]
      by_cases h2 : i = x
      · exact ⟨k, hk, by rw [if_pos h2], by rw [if_neg h1, if_pos h2]⟩
      · exact ⟨x, hx', by rw [if_neg h2], by rw [if_neg h1, if_neg h2]⟩
  refine nd_of fun x y hx hy e => ?_
  obtain ⟨x', hx', e1, f1⟩ := key x hx
  obtain ⟨y', hy', e2, f2⟩ := key y hy
  rw [e1, e2] at e
  have := nd_inj h hx' hy' e
  subst this
  rw [f1] at f2
  (repeat' split at f2) <;> omega
theorem or2 (L : List Int) (n : Nat) (hn : n ≤ 5) : ∀ (i : Nat) (a : Int) (l : List Int), i < n → 0 ≤ a → a + i ≤ 1099511627776 → l.length = n → (∀ x ∈ l, 0 ≤ x ∧ x < (n : Int)) → l.Nodup → Ends (QOr L n a (a + i)) (f25h2 i L a l)
  | 0, a, l, hi, h0, ha, hl, hr, hd => by
    rw [f25h2_eq, condF (dF (by omega))]
    exact ends_some ⟨_, _, rfl, by omega, by omega, hl, hr, hd⟩
  | i + 1, a, l, hi, h0, ha, hl, hr, hd => by
    have e1 := nextAt_s (a := a) h0 (by omega)
    have ew : wrap .i64 (((i + 1 : Nat) : Int) - 1) = (i : Int) := by rw [wrap_in (by omega) (by omega)]; omega
    rw [f25h2_eq, condT (dT (by omega)), wsucc (by omega), e1, ew]
    obtain ⟨k1, k2⟩ := next_range L a (n := ((i + 1 + 1 : Nat) : Int)) (by omega) (by omega)
    generalize next L a ((i + 1 + 1 : Nat) : Int) = k at k1 k2 ⊢
    refine ends_if (atOk_t h0 (by omega)) ?_
    rw [Int.toNat_natCast]
    have hk : k.toNat < l.length := by omega
    have hi' : i + 1 < l.length := by omega
    repeat (rw [condT (dT (by first | omega | (simp only [List.length_append, List.length_cons, List.length_nil, List.length_set, List.length_take, List.length_drop, List.length_map]; omega) | (simp; omega)))])
    have m1 := getD_inI hr hk (Tc.dflt tI)
    have m2 := getD_inI hr hi' (Tc.dflt tI)
    exact QOr_mono (by omega) (by omega) (or2 L n hn i (a + 1) _ (by omega) (by omega) (by omega) (by simp; exact hl) (set_in (set_in hr m1 _) m2 _) (swap_nd _ hd hi' hk))
theorem or0 (L : List Int) (n : Nat) (hn : n ≤ 5) (a : Int) (h0 : 0 ≤ a) (ha : a + 10 ≤ 1099511627776) : ∀ (m i : Nat) (l : List Int), i + m = n → l.length = i → (∀ x ∈ l, 0 ≤ x ∧ x < (i : Int)) → l.Nodup → Ends (QOr L n a (a + 10)) (f25h0 n n i L a l)
  | 0, i, l, hi, hl, hr, hd => by
    rw [f25h0_eq, condF (dlt_not (by omega))]
    have : i = n := by omega
    subst this
    cases i with
    | zero =>
      rw [show wrap .i64 (((0 : Nat) : Int) - 1) = -1 from rfl, f25h2_eq, condF (dF (by decide))]
      exact ends_some ⟨_, _, rfl, by omega, by omega, hl, hr, hd⟩
    | succ j =>
      have ew : wrap .i64 (((j + 1 : Nat) : Int) - 1) = (j : Int) := by rw [wrap_in (by omega) (by omega)]; omega
      rw [ew]
      exact QOr_mono (by omega) (by omega) (or2 L (j + 1) hn j a l (by omega) h0 (by omega) hl hr hd)
  | m + 1, i, l, hi, hl, hr, hd => by
    rw [f25h0_eq, condT (dlt (by omega)), condT (dT (by simp; omega)), wsucc (by omega)]
    refine or0 L n hn a h0 ha m (i + 1) _ (by omega) (by simp; exact hl) (fun x hx => ?_) ?_
    rcases List.mem_append.1 hx with h | h
    · have := hr x h; omega
    · rw [List.mem_singleton.1 h]; omega
    · rw [List.nodup_append]
      refine ⟨hd, by simp, fun x hx y hy e => ?_⟩
      rw [List.mem_singleton.1 hy] at e
      have := hr x hx
      omega
theorem aOrder_spec (L : List Int) (at_ n : Int) (h : (atOk 100 at_ && decide (0 ≤ n) && decide (n ≤ 5)) = true) :
    (at_ ≤ (aOrder L at_ n).1 ∧ (aOrder L at_ n).1 ≤ at_ + 10 ∧ (aOrder L at_ n).2.length = n.toNat ∧ (∀ x ∈ (aOrder L at_ n).2, 0 ≤ x ∧ x < n) ∧ (aOrder L at_ n).2.Nodup) ∧
    I25.run ⟨[.ptr 0 0, .dat tI n], [(0, .box [.dat (.slice tI) L, .dat tI at_])]⟩ = some ⟨[.dat (.slice tI) (aOrder L at_ n).2], [(0, .box [.dat (.slice tI) L, .dat tI (aOrder L at_ n).1])]⟩ := by
  simp only [Bool.and_eq_true, decide_eq_true_eq] at h
  obtain ⟨⟨h1, h2⟩, h3⟩ := h
  have h1 := atOk_iff.1 h1
  obtain ⟨k, rfl⟩ := Int.eq_ofNat_of_zero_le h2
  have hE : Ends (QOr L k at_ (at_ + 10)) (I25.run ⟨[.ptr 0 0, .dat tI k], [(0, .box [.dat (.slice tI) L, .dat tI at_])]⟩) := by
    rw [f25_run]
    exact or0 L k (by omega) at_ h1.1 (by omega) k 0 [] (Nat.zero_add _) rfl (fun x hx => by cases hx) List.nodup_nil
  obtain ⟨f, hf, a', p, rfl, h4, h5, h6, h7, h8⟩ := hE
  exact Classical.epsilon_spec (p := fun p : Int × List Int => (at_ ≤ p.1 ∧ p.1 ≤ at_ + 10 ∧ p.2.length = Int.toNat k ∧ (∀ x ∈ p.2, 0 ≤ x ∧ x < (k : Int)) ∧ p.2.Nodup) ∧
    I25.run ⟨[.ptr 0 0, .dat tI k], [(0, .box [.dat (.slice tI) L, .dat tI at_])]⟩ = some ⟨[.dat (.slice tI) p.2], [(0, .box [.dat (.slice tI) L, .dat tI p.1])]⟩)
    ⟨(a', p), ⟨h4, h5, by show p.length = _; rw [h6, Int.toNat_natCast], h7, h8⟩, hf⟩
theorem r25 : R25 := fun a0 L at_ h => (aOrder_spec L at_ a0 h).2

end Go.Ev.X

set_option linter.unusedVariables false
set_option linter.unusedSimpArgs false
namespace Go.Ev.X
open Go Go.Ev Go.Proofs
theorem idx_key (k : Bytes) : ∀ (xs : List Item) (i : Nat), (∃ (j : Nat) (hj : j < xs.length), idxBy (fun (o : Item) => o.1 == k) xs i = ((i + j : Nat) : Int) ∧ xs[j].1 = k) ∨ (∀ x ∈ xs, x.1 ≠ k)
  | [], i => .inr fun x hx => by cases hx
  | x :: l, i => by
    by_cases h : x.1 = k
    · refine .inl ⟨0, by simp, ?_, h⟩
      unfold idxBy
      rw [show (x.1 == k) = true from by simpa using h]; rfl
    · rcases idx_key k l (i + 1) with ⟨j, hj, e1, e2⟩ | h2
      · refine .inl ⟨j + 1, by simp; omega, ?_, e2⟩
        unfold idxBy
        rw [show (x.1 == k) = false from by simpa using h, cond_false, e1]
        congr 1; omega
      · refine .inr fun y hy => ?_
        rcases List.mem_cons.1 hy with rfl | hy
        · exact h
        · exact h2 y hy

theorem find_key {xs : List Item} (hk : KN xs) {x : Item} (hx : x ∈ xs) : ¬ itemIx xs x.1 < 0 ∧ xs.getD (itemIx xs x.1).toNat (Tc.dflt tItem) = x := by
  obtain ⟨a, ha, e⟩ := List.getElem_of_mem hx
  rcases idx_key x.1 xs 0 with ⟨j, hj, e1, e2⟩ | h
  · have e1' : itemIx xs x.1 = (j : Int) := by
      unfold itemIx
      rw [e1, Nat.zero_add]
    have : j = a := hk j a hj ha (by rw [e2, e])
    subst this
    rw [e1']
    refine ⟨by omega, ?_⟩
    rw [Int.toNat_natCast, List.getD_eq_getElem?_getD, List.getElem?_eq_getElem hj]
    exact e
  · exact absurd rfl (h x hx)

theorem idxS_no (x : Bytes) : ∀ (l : List Bytes) (i : Nat), x ∉ l → idxS x l i = -1
  | [], i, _ => rfl
  | y :: l, i, h => by
    simp only [List.mem_cons, not_or] at h
    unfold idxS
    rw [show (x == y) = false from by simpa using h.1, cond_false]
    exact idxS_no x l (i + 1) h.2

theorem hasS_no {x : Bytes} {l : List Bytes} (h : x ∉ l) : hasS l x = false := by
  unfold hasS
  rw [idxS_no x l 0 h]; rfl

theorem movGo_ok {xs : List Item} (hk : KN xs) : ∀ (l : List Item) (pre : List Bytes) (acc : List Item), (∀ x ∈ l, x ∈ xs) → (∀ x ∈ l, x.1 ∉ pre) → (l.map fun x => x.1).Nodup → movGo xs pre (keysI l) acc = (acc ++ l, 0)
  | [], pre, acc, _, _, _ => by simp [keysI, movGo]
  | x :: l, pre, acc, h1, h2, h3 => by
    obtain ⟨q1, q2⟩ := find_key hk (h1 x List.mem_cons_self)
    have hq : keysI (x :: l) = x.1 :: keysI l := rfl
    have h3' := List.nodup_cons.1 (by simpa using h3 : (x.1 :: l.map fun x => x.1).Nodup)
    rw [hq]
    simp only [movGo]
    rw [dF q1, cond_false, hasS_no (h2 x List.mem_cons_self), cond_false, q2, movGo_ok hk l (pre ++ [x.1]) (acc ++ [x]) (fun y hy => h1 y (List.mem_cons_of_mem _ hy)) (fun y hy hm => ?_) h3'.2]
    · simp
    · rcases List.mem_append.1 hm with h | h
      · exact h2 y (List.mem_cons_of_mem _ hy) h
      · rw [List.mem_singleton] at h
        exact h3'.1 (h ▸ List.mem_map_of_mem hy)

theorem kn_nd {l : List Item} (h : KN l) : (l.map fun x => x.1).Nodup := by
  refine List.pairwise_iff_getElem.2 fun i j hi hj hlt e => ?_
  simp only [List.getElem_map] at e
  have := h i j (by simpa using hi) (by simpa using hj) e
  omega
theorem nd_kn {l : List Item} (h : (l.map fun x => x.1).Nodup) : KN l := by
  intro a b ha hb e
  have hp := List.pairwise_iff_getElem.1 h
  rcases Nat.lt_trichotomy a b with h1 | h1 | h1
  · exact absurd (by rw [List.getElem_map, List.getElem_map]; exact e) (hp a b (by simpa using ha) (by simpa using hb) h1)
  · exact h1
  · exact absurd (by rw [List.getElem_map, List.getElem_map]; exact e.symm) (hp b a (by simpa using hb) (by simpa using ha) h1)

theorem mov_ok (p : Prgm) (h : checkProg isKey p = 0) (l : List Item) (hl : Sel p.1 l) : movP p (keysI l) = ((l, p.2), 0) := by
  have hm := movGo_ok (nd_kn (prog_items p h).2) l [] [] hl.2.2 (fun x _ hx => by cases hx) (kn_nd hl.2.1)
  unfold movP movR
  rw [h, hm, show (keysI l).length = p.1.length from by rw [keysI_len]; exact hl.1, bne_f (a := (p.1.length : Int)) rfl]
  rfl

theorem prog_half (p : Prgm) (h : checkProg isKey p = 0) : outside p.2.2.2.2 (-1) (mx (-1) (wrap .i64 ((p.1.length : Int) - 2))) = false := by
  unfold checkProg at h
  cases h1 : (checkItems isKey p.1 != 0) with
  | true => rw [h1, cond_true] at h; rw [h] at h1; exact absurd h1 (by decide)
  | false =>
  rw [h1, cond_false] at h
  cases h2 : (outside p.2.1 0 86400000 || outside p.2.2.1 0 86400000 || outside p.2.2.2.1 0 86400000 || outside p.2.2.2.2 (-1) (mx (-1) (wrap .i64 ((p.1.length : Int) - 2)))) with
  | true => rw [h2, cond_true] at h; exact absurd h (by decide)
  | false =>
  simp only [Bool.or_eq_false_iff] at h2
  exact h2.2

theorem long_sel (p : Prgm) (h : checkProg isKey p = 0) (h5 : p.1.length ≤ 5) (l : List Item) (hl : Sel p.1 l) : longP (l, p.2) = ((begGo (l, p.2) 0 0 l).2, 0) := by
  obtain ⟨h1, h2⟩ := prog_items p h
  obtain ⟨_, h3, h4, h6⟩ := prog_in p h
  have hc : checkProg isKey (l, p.2) = 0 := checkProg_ok (l, p.2) (by show l.length ≤ 5; rw [hl.1]; exact h5) (fun x hx => h1 x (hl.2.2 x hx)) (kn_nd hl.2.1) h3 h4 h6 (by
    have := prog_half p h
    rw [← hl.1] at this; exact this)
  unfold longP
  rw [hc]; rfl

/-- The best order. -/
theorem order_ok (p : Prgm) (h : checkProg isKey p = 0) : ∃ l0, Sel p.1 l0 ∧ ordR p = (keysI l0, ((begGo (l0, p.2) 0 0 l0).2, 0)) ∧ ∀ l, Sel p.1 l → (begGo (l0, p.2) 0 0 l0).2 ≤ (begGo (l, p.2) 0 0 l).2 := by
  have hs : Sel p.1 p.1 := ⟨rfl, nd_kn (prog_items p h).2, fun x h => h⟩
  have hall : ∀ l, Sel p.1 l → l ∈ permA p.1.length p.1 0 := fun l hl => sel_permA p.1 l hl _ p.1 0 (Nat.zero_add _) rfl (fun x => Iff.rfl) (fun a _ _ ha => absurd ha (Nat.not_lt_zero _))
  have e1 : ordS p = runR ((permA p.1.length p.1 0).map fun l => rankF (l, p.2)) (false, (0, (0, []))) := ordF_run p.2 _ _ _ _
  cases hL : (permA p.1.length p.1 0).map fun l => rankF (l, p.2) with
  | nil =>
    have := hall p.1 hs
    rw [List.map_eq_nil_iff] at hL
    rw [hL] at this; cases this
  | cons r0 L =>
    obtain ⟨r, q1, q2, q3⟩ := run_least L r0
    have e2 : ordS p = (true, r) := by
      rw [e1, hL]
      exact q1
    rw [← hL] at q2 q3
    obtain ⟨l0, m1, m2⟩ := List.mem_map.1 q2
    have hsel := permA_sel p.1 _ p.1 0 (Nat.zero_add _) hs l0 m1
    refine ⟨l0, hsel, ?_, fun l hl => ?_⟩
    · unfold ordR
      rw [h, e2, ← m2]; rfl
    · have hlt := q3 _ (List.mem_map_of_mem (f := fun l => rankF (l, p.2)) (hall l hl))
      rw [← m2] at hlt
      have h1 : ¬ (begGo (l, p.2) 0 0 l).2 < (begGo (l0, p.2) 0 0 l0).2 := fun hc => by
        have := less_iff.2 (.inl hc : (rankF (l, p.2)).1 < (rankF (l0, p.2)).1 ∨ _)
        rw [this] at hlt; cases hlt
      omega

theorem loop6 (p : Prgm) (hp : checkProg isKey p = 0) (h5 : p.1.length ≤ 5) (l0 : List Item) (n : Int) (hl0 : l0.length = p.1.length) (z1 z2 z3 z4 : Int) (os : List Int) (hos : os.length = p.1.length) (hr : ∀ x ∈ os, 0 ≤ x ∧ x < (p.1.length : Int)) (hd : os.Nodup)
    (hle : ∀ l, Sel p.1 l → n ≤ (begGo (l, p.2) 0 0 l).2) : ∀ (m i : Nat), i + m = os.length →
    f6h0 n 0 0 n 0 os (os.length : Int) i p.2.1 p.2.2.1 p.2.2.2.1 p.2.2.2.2 l0 z1 z2 z3 z4 (keysI ((os.map fun j => p.1.getD j.toNat (Tc.dflt tItem)).take i)) p.1 = some ⟨[.dat .bool true], []⟩ := by
  intro m
  induction m with
  | zero =>
    intro i hi
    have hi' : i = os.length := by omega
    have hlen : (os.map fun j => p.1.getD j.toNat (Tc.dflt tItem)).length = p.1.length := by rw [List.length_map, hos]
    have hat : ∀ (a : Nat) (ha : a < os.length), ∃ (hb : os[a].toNat < p.1.length), (os.map fun j => p.1.getD j.toNat (Tc.dflt tItem))[a]'(by simpa using ha) = p.1[os[a].toNat] := by
      intro a ha
      have := hr _ (List.getElem_mem ha)
      refine ⟨by omega, ?_⟩
      rw [List.getElem_map, List.getD_eq_getElem?_getD, List.getElem?_eq_getElem (by omega : os[a].toNat < p.1.length)]; rfl
    have hkn := nd_kn (prog_items p hp).2
    have hsel : Sel p.1 (os.map fun j => p.1.getD j.toNat (Tc.dflt tItem)) := by
      refine ⟨hlen, fun a b ha hb e => ?_, fun x hx => ?_⟩
      · have ha' : a < os.length := by simpa using ha
        have hb' : b < os.length := by simpa using hb
        obtain ⟨qa, ea⟩ := hat a ha'
        obtain ⟨qb, eb⟩ := hat b hb'
        rw [ea, eb] at e
        have h1 := hkn _ _ qa qb e
        have ra := hr _ (List.getElem_mem ha')
        have rb := hr _ (List.getElem_mem hb')
        exact nd_inj hd ha' hb' (by omega)
      · obtain ⟨a, ha, rfl⟩ := List.getElem_of_mem hx
        obtain ⟨qa, ea⟩ := hat a (by simpa using ha)
        rw [ea]; exact List.getElem_mem _
    have htk : (os.map fun j => p.1.getD j.toNat (Tc.dflt tItem)).take i = os.map fun j => p.1.getD j.toNat (Tc.dflt tItem) := List.take_of_length_le (by rw [hlen]; omega)
    rw [f6h0_eq, dlt_not (i := i) (n := os.length) (by omega), cond_false, htk]
    generalize os.map (fun j => p.1.getD j.toNat (Tc.dflt tItem)) = l1 at hlen hsel
    have hm := mov_ok p hp l1 hsel
    have hlg := long_sel p hp h5 l1 hsel
    have hpe : ((p.1, (p.2.1, (p.2.2.1, (p.2.2.2.1, p.2.2.2.2)))) : Prgm) = p := rfl
    rw [hpe, hm]
    have hpe2 : ((l1, (p.2.1, (p.2.2.1, (p.2.2.2.1, p.2.2.2.2)))) : Prgm) = (l1, p.2) := rfl
    show cond (decide ((keysI l1).length ≤ 1000)) (cond (decide (List.length [(0 : Int), 0, 0, 0, (longP (l1, (p.2.1, (p.2.2.1, (p.2.2.2.1, p.2.2.2.2))))).2] ≤ 1000)) (cond (firstE [(0 : Int), 0, 0, 0, (longP (l1, (p.2.1, (p.2.2.1, (p.2.2.2.1, p.2.2.2.2))))).2] == 0) (cond ((l0.length : Int) == (p.1.length : Int)) (cond (n == n) (cond (decide (n ≤ (longP (l1, (p.2.1, (p.2.2.1, (p.2.2.2.1, p.2.2.2.2))))).1)) _ _) _) _) _) none) none = _
    rw [hpe2, hlg, keysI_len, hlen, hl0, dT (p := p.1.length ≤ 1000) (by omega), cond_true]
    show cond true (cond true (cond ((p.1.length : Int) == (p.1.length : Int)) (cond (n == n) (cond (decide (n ≤ (begGo (l1, p.2) 0 0 l1).2)) _ _) _) _) _) none = _
    rw [dT (p := n ≤ (begGo (l1, p.2) 0 0 l1).2) (hle l1 hsel)]
    simp
  | succ m ih =>
    intro i hi
    have hlt : i < os.length := by omega
    have hb := hr _ (List.getElem_mem hlt)
    rw [f6h0_eq, dlt hlt, dle0, getN _ _ _ hlt, wsucc (by omega), dT hb.1, dT hb.2]
    simp only [cond_true]
    have hk : (keysI ((os.map fun j => p.1.getD j.toNat (Tc.dflt tItem)).take i)).length ≤ 5 := by rw [keysI_len, List.length_take]; omega
    refine (condT (dT (by simp only [List.length_cons, List.length_nil]; omega))).trans ?_
    have := ih (i + 1) (by omega)
    have hlt2 : i < (os.map fun j => p.1.getD j.toNat (Tc.dflt tItem)).length := by simpa using hlt
    rw [List.take_succ_eq_append_getElem hlt2, List.getElem_map] at this
    have hkk : ∀ (a : List Item) (x : Item), keysI (a ++ [x]) = keysI a ++ [x.1] := fun a x => by simp [keysI]
    rw [hkk] at this
    exact this

theorem r6 : R6 := by
  intro a0 _
  rw [f6_run]
  obtain ⟨⟨h1, h2, h3, h4, h5⟩, _⟩ := rightP_spec a0 0 5 rfl
  generalize rightP a0 (0 : Int) (5 : Int) = RP at h1 h2 h3 h4 h5
  obtain ⟨at_, its, c1, c2, c3, c4⟩ := RP
  simp only at h1 h2 h3 h4 h5 ⊢
  have hk : (atOk 1000 (0 : Int) && decide (0 ≤ (5 : Int)) && decide ((5 : Int) ≤ 5)) = true := rfl
  have hO : (atOk 100 at_ && decide (0 ≤ (its.length : Int)) && decide ((its.length : Int) ≤ 5)) = true := by
    rw [atOk_t (by omega) (by omega), dT (p := (0 : Int) ≤ (its.length : Int)) (by omega), dT (p := (its.length : Int) ≤ 5) (by omega)]; rfl
  obtain ⟨⟨_, _, o3, o4, o5⟩, _⟩ := aOrder_spec a0 at_ its.length hO
  obtain ⟨l0, hs, ho, hle⟩ := order_ok (its, (c1, (c2, (c3, c4)))) h5
  have hm := mov_ok (its, (c1, (c2, (c3, c4)))) h5 l0 hs
  have hlg := long_sel (its, (c1, (c2, (c3, c4)))) h5 h3 l0 hs
  have hl0 : l0.length = its.length := hs.1
  have hloop := loop6 (its, (c1, (c2, (c3, c4)))) h5 h3 l0 ((begGo (l0, (c1, (c2, (c3, c4)))) 0 0 l0).2) hs.1 c1 c2 c3 c4 (aOrder a0 at_ its.length).2 (by rw [o3, Int.toNat_natCast]) o4 o5 hle (aOrder a0 at_ its.length).2.length 0 (Nat.zero_add _)
  rw [hk, cond_true, dT (p := its.length ≤ 5) h3, cond_true, ho, hm]
  rw [hO, dT (p := (keysI l0).length ≤ 1000) (by rw [keysI_len, hl0]; omega), cond_true, cond_true]
  rw [show longP (((l0, (c1, (c2, (c3, c4)))) : Prgm).1, (c1, (c2, (c3, c4)))) = ((begGo (l0, (c1, (c2, (c3, c4)))) 0 0 l0).2, 0) from hlg]
  exact hloop

end Go.Ev.X

set_option linter.unusedVariables false
set_option linter.unusedSimpArgs false
namespace Go.Ev
open Go Go.RowKit

/-- What is known of a table among the program's variables. -/
def gTab (P : Program) (S : Nat → Prop) (h : Array Obj) : Prop :=
  ∃ g, P.globalNamed "internal/strconv.uint64pow10" = some g ∧ S g ∧ ∀ w : World, w.heap = h → Lib.TabIs P w "internal/strconv.uint64pow10" .u64 Lib.pow10Tab

theorem gTab_mono {P : Program} (S S' : Nat → Prop) (h h' : Array Obj) (hg : gTab P S h) (hs : ∀ b, S b → S' b ∧ h'[b]? = h[b]?) : gTab P S' h' := by
  obtain ⟨g, h1, h2, h3⟩ := hg
  refine ⟨g, h1, (hs g h2).1, fun w hw => ?_⟩
  have := h3 { w with heap := h } rfl
  unfold Lib.TabIs World.var? at this ⊢
  rw [h1] at this ⊢
  simp only [Option.bind_some] at this ⊢
  rw [hw, (hs g h2).2]
  exact this

theorem gTab_at {P : Program} {S : Nat → Prop} {w : World} (h : gTab P S w.heap) : Lib.TabIs P w "internal/strconv.uint64pow10" .u64 Lib.pow10Tab := by
  obtain ⟨g, _, _, h3⟩ := h
  exact h3 w rfl

theorem gTab_of {P : Program} {w : World} (h : Lib.TabIs P w "internal/strconv.uint64pow10" .u64 Lib.pow10Tab) : gTab P (fun b => b < w.heap.size) w.heap := by
  have h0 := h
  unfold Lib.TabIs World.var? at h
  cases hg : P.globalNamed "internal/strconv.uint64pow10" with
  | none => rw [hg] at h; cases h
  | some g =>
    rw [hg] at h
    simp only [Option.bind_some] at h
    refine ⟨g, hg, ?_, fun w' hw => ?_⟩
    · split at h
      · rename_i cs _ _ hb; exact (Array.getElem?_eq_some_iff.1 hb).1
      · cases h
    · unfold Lib.TabIs World.var? at h0 ⊢
      rw [hg] at h0 ⊢
      simp only [Option.bind_some] at h0 ⊢
      rw [hw]; exact h0

/-- A table anywhere on the list. -/
theorem tab_in {P : Program} {W : World} {name : String} {k : IntKind} {zs : List Int} {g : Nat} {t e : TypeId} {n : Nat}
    (hg : P.globalNamed name = some g) (hty : (P.globals[g]?).map (·.type) = some t) (ht : P.underlying t = some (.array n e)) (he : P.underlying e = some (.int k)) (hce : P.cellsOf e = 1) (hct : P.cellsOf t = n) :
    ∀ (laid : List (String × DataW Unit)) (ps : List MemPlace), DataW.LaidVars P W laid ps → (name, Lib.tabData k zs) ∈ laid → Lib.TabIs P W name k zs
  | [], _, _, hm => by cases hm
  | x :: rest, ps, hl, hm => by
    obtain ⟨nm, d⟩ := x
    obtain ⟨g', t', cs, fuel, p, q, hg', ht', hvar, hd, hrest, _⟩ := hl
    rcases List.mem_cons.1 hm with h | h
    · cases h
      obtain rfl := Option.some.inj (hg.symm.trans hg')
      obtain rfl := Option.some.inj (hty.symm.trans ht')
      unfold Lib.TabIs
      rw [hvar, ← Lib.cells_of_tab ht he hce hct hd]
    · exact tab_in hg hty ht he hce hct rest q hrest h

/-- The table at a place of the list that is known. -/
theorem tab_laid {P : Program} {W : World} {laid : List (String × DataW Unit)} {g : Nat} {t e : TypeId} {i : Nat}
    (hg : P.globalNamed "internal/strconv.uint64pow10" = some g) (hty : (P.globals[g]?).map (·.type) = some t) (ht : P.underlying t = some (.array 20 e)) (he : P.underlying e = some (.int .u64)) (hce : P.cellsOf e = 1) (hct : P.cellsOf t = 20)
    (h : laidMetH P laid W) (hi : (laid.filter fun x => x.2.handleName?.isNone)[i]? = some ("internal/strconv.uint64pow10", Lib.tabData .u64 Lib.pow10Tab)) : Lib.TabIs P W "internal/strconv.uint64pow10" .u64 Lib.pow10Tab := by
  have key : ∀ l : List (String × DataW Unit), (l.filter fun x : String × DataW Unit => x.2.handleName?.isSome) = [] → (l.filter fun x => x.2.handleName?.isNone) = l := by
    intro l hl
    rw [List.filter_eq_self]
    intro x hx
    have := List.filter_eq_nil_iff.1 hl x hx
    cases hh : x.2.handleName? with
    | none => rfl
    | some s => rw [hh] at this; exact absurd rfl this
  unfold laidMetH at h
  split at h
  · rename_i hf
    rw [key _ hf] at hi
    obtain ⟨ps, hl, _⟩ := h
    exact tab_in hg hty ht he hce hct _ ps hl (List.mem_of_getElem? hi)
  · obtain ⟨⟨ps, hl, _⟩, _⟩ := h
    exact tab_in hg hty ht he hce hct _ ps hl (List.mem_of_getElem? hi)

theorem env_tab {P : Program} {l : List (Nat × TI)} (h : (l.all fun p => okTI P p.1 p.2) = true) : EnvOk P ⟨ttOf l, fun _ => none, gTab P, fun _ => none⟩ :=
  ⟨fun t ti ht => okTI_spec (all_okTI h (ttOf_mem l t ti ht)), (fun f s hs => by cases hs), fun S S' h h' hg hs => gTab_mono S S' h h' hg hs, (fun g t hg => by cases hg)⟩

/-- A contract of the shelf with several results. -/
theorem pureL_sound {P : Program} {G : (Nat → Prop) → Array Obj → Prop} {f : FuncId} {md : List Bool} {ret : Bool} {ts : List Tc} {ok : Tup ts → Bool} {pat : Fr} {out : Tup ts → List FV}
    (hp : ∀ x, fillF pat (undats ts x) = ⟨undats ts x, []⟩)
    (h : ∀ x, ok x = true → ∀ (w : World) (V : Vw) (vals : List Value), V.h = w.heap → G V.S w.heap → RelVs V (undats ts x) vals →
      Calls P f vals.toArray w fun e w' => ∃ u, e = .returned u ∧ RowKit.Below w.heap.size w w' ∧ ∀ V', RelV V' (resFV (out x)) u) :
    Sound P G f (genS md ret pat ts ok (fun x => ⟨out x, []⟩)) := by
  refine gen_of (P := P) (G := G) (f := f) (fun pk o => ∀ (vals : List Value) (w : World) (loc : Nat → Loc) (S : Nat → Prop), Core pk.reg loc S w.heap → G S w.heap →
    RelVs (view pk.reg loc S w.heap) pk.slots vals →
    Calls P f vals.toArray w fun e w' => ∃ u, e = .returned u ∧ Sm w w' ∧ ∃ loc' S', Ctx (entOf pk loc S w.heap) o.reg loc' S' w'.heap ∧
      (view pk.reg loc S w.heap).le (view o.reg loc' S' w'.heap) ∧ RelV (view o.reg loc' S' w'.heap) (resFV o.slots) u) ?_
  intro x hx vals w loc S hc hg hv
  rw [hp] at hc hv ⊢
  refine (h x hx w (view (Fr.reg ⟨undats ts x, []⟩) loc S w.heap) vals rfl hg hv).mono ?_
  rintro e w' ⟨u, rfl, hb, hu⟩
  refine ⟨u, rfl, ⟨hb.os, hb.output⟩, loc, S, ⟨⟨fun _ => trivial, fun _ _ h => h.elim, fun _ h => h.elim, fun b hb' => Nat.lt_of_lt_of_le (hc.bS b hb') hb.size⟩,
    ⟨hb.size, fun b hb' _ => hb.block b hb', fun _ h => h, fun _ h => .inl h, fun _ h => h.elim, fun _ _ ⟨_, h, _⟩ => h.elim, hc.bS, fun _ h => by cases h⟩⟩,
    ⟨fun _ _ h => h.elim, fun _ _ _ h => h.elim, fun _ _ _ _ h => h.elim, fun _ _ h => h.elim, fun b hb' => ⟨hb', hb.block b (hc.bS b hb')⟩⟩, ?_⟩
  exact hu _

def itoaZ (n : Int) : Bytes := Lib.itoa n
def atoiOkB (s : Bytes) : Bool := decide (s.length ≤ 18) && (Lib.atoi s).isSome
def atoiZ (s : Bytes) : Int := (Lib.atoi s).getD 0

theorem itoa_sound {P : Program} {ρ : Shelf.Ren} (L : Proofs.LaysM.n171 P ρ) {ret : Bool} :
    Sound P (gTab P) (ρ.f 171) (genS [true] ret ⟨[.undef], []⟩ [.int .i64] (fun x => decide (-9223372036854775808 ≤ x.1) && decide (x.1 ≤ 9223372036854775807)) (fun x => ⟨[.dat .str (itoaZ x.1)], []⟩)) := by
  refine pureL_sound (ts := [.int .i64]) (out := fun x => [.dat .str (itoaZ x.1)]) (fun _ => rfl) ?_
  rintro ⟨n, _⟩ hok w V vals hV hG ⟨u1, us, rfl, h1, rfl⟩
  cases h1
  have hok' : (decide (-9223372036854775808 ≤ n) && decide (n ≤ 9223372036854775807)) = true := hok
  simp only [Bool.and_eq_true, decide_eq_true_eq] at hok'
  refine (Proofs.Any.strconv_Itoa L n hok'.1 hok'.2 w (gTab_at hG)).mono ?_
  rintro e w' ⟨rfl, k, os, rfl⟩
  refine ⟨_, rfl, ⟨rfl, rfl, rfl, by simp [Sort.grow, World.drewN], fun b hb => ?_⟩, fun V' => rfl⟩
  rw [Sort.heap_grow_old _ _ (by simpa [World.drewN] using hb)]
  rfl

theorem atoi_sound {P : Program} {G : (Nat → Prop) → Array Obj → Prop} {ρ : Shelf.Ren} (L : Proofs.Lays.n172 P ρ) {ret : Bool} :
    Sound P G (ρ.f 172) (genS [true] ret ⟨[.undef], []⟩ [.str] (fun x => atoiOkB x.1) (fun x => ⟨[.dat (.int .i64) (atoiZ x.1), .nili], []⟩)) := by
  refine pureL_sound (ts := [.str]) (out := fun x => [.dat (.int .i64) (atoiZ x.1), .nili]) (fun _ => rfl) ?_
  rintro ⟨s, _⟩ hok w V vals hV hG ⟨u1, us, rfl, h1, rfl⟩
  cases h1
  have hok' : (decide (List.length s ≤ 18) && (Lib.atoi s).isSome) = true := hok
  simp only [Bool.and_eq_true, decide_eq_true_eq] at hok'
  obtain ⟨n, hn⟩ := Option.isSome_iff_exists.1 hok'.2
  refine (Proofs.Any.strconv_Atoi L ⟨List.toArray s⟩ n (by show (List.toArray s).size ≤ 18; simpa using hok'.1) (by simpa using hn) w).mono ?_
  rintro e w' ⟨rfl, t, rfl⟩
  refine ⟨_, rfl, Joins.below_bytesWorld _ w _ _ (Nat.le_refl _), fun V' => ⟨[_, _], rfl, _, _, rfl, ?_, _, _, rfl, rfl, rfl⟩⟩
  show RelVal V'.S V'.h (.int .i64) (atoiZ s) (.int .i64 n)
  unfold atoiZ
  rw [hn]; rfl
end Go.Ev

set_option linter.unusedVariables false
set_option linter.unusedSimpArgs false
namespace Go.Ev
open Go Go.RowKit

/-! ### a slice that is sorted where it lies, by the shelf's contract -/
theorem inplace_sound {P : Program} {G : (Nat → Prop) → Array Obj → Prop} {f : FuncId} {t : Tc} [Inhabited t.den] {enc : t.den → Value} (hs : t.size = 1) (he : ∀ S h x cs, RelD S h t x cs ↔ cs = [enc x])
    {ok : List t.den → Bool} {g : List t.den → List t.den} (hl : ∀ xs, (g xs).length = xs.length) (hne : ∀ xs, ok xs = true → xs ≠ [])
    (h : ∀ xs, ok xs = true → ∀ blk off cap (w : World), Sort.Holds enc w blk off xs.toArray → blk < w.heap.size → Calls P f #[.slice (some ⟨blk, off, none⟩) xs.length cap] w fun e w' =>
      e = .returned (.tuple #[]) ∧ ∃ n os, w' = Sort.grow (Sort.putRow enc (Sort.ahead w n) blk off (g xs).toArray) os) :
    Sound P G f (genS [false] true ⟨[.slc 0], [(0, .arr t [])]⟩ [.slice t] (fun x => ok x.1) (fun x => ⟨[], [(0, .arr t (g x.1))]⟩)) := by
  refine gen_of (P := P) (G := G) (f := f) (fun pk o => ∀ (vals : List Value) (w : World) (loc : Nat → Loc) (S : Nat → Prop), Core pk.reg loc S w.heap → G S w.heap →
    RelVs (view pk.reg loc S w.heap) pk.slots vals →
    Calls P f vals.toArray w fun e w' => ∃ u, e = .returned u ∧ Sm w w' ∧ ∃ loc' S', Ctx (entOf pk loc S w.heap) o.reg loc' S' w'.heap ∧
      (view pk.reg loc S w.heap).le (view o.reg loc' S' w'.heap) ∧ RelV (view o.reg loc' S' w'.heap) (resFV o.slots) u) ?_
  intro x hx vals w loc S hc hg hv
  obtain ⟨xs, _⟩ := x
  have hpk : fillF ⟨[.slc 0], [(0, .arr t [])]⟩ (undats [.slice t] (xs, ())) = ⟨[.slc 0], [(0, .arr t xs)]⟩ := rfl
  rw [hpk] at hc hv ⊢
  simp only at hx
  have hr0 : ∀ (ys : List t.den) (sl : List FV), Fr.reg ⟨sl, [(0, .arr t ys)]⟩ 0 = .arr t ys := fun _ _ => rfl
  have hrk : ∀ (ys : List t.den) (sl : List FV) (k : Nat), k ≠ 0 → Fr.reg ⟨sl, [(0, .arr t ys)]⟩ k = .abs := fun ys sl k hk => by
    show cond (Nat.beq 0 k) _ _ = _
    cases k with
    | zero => exact absurd rfl hk
    | succ k => rfl
  obtain ⟨v, us, rfl, hv0, rfl⟩ := hv
  have hv1 : slRel (Fr.reg ⟨[.slc 0], [(0, .arr t xs)]⟩) loc S w.heap 0 v := hv0
  simp only [slRel, hr0] at hv1
  have hreg := hc.reg 0
  rw [hr0] at hreg
  rcases hreg with ⟨_, hx0⟩ | ⟨hnil, c, e, hb, q1, q2, q3⟩
  · exact absurd hx0 (hne xs hx)
  have hb2 : w.heap[(loc 0).blk]? = some (.cells c e (0, 0)) := hb
  have hlt : (loc 0).blk < w.heap.size := (Array.getElem?_eq_some_iff.1 hb2).1
  have hcell : ∀ (i : Nat) (x : t.den), xs[i]? = some x → c[(loc 0).off + i]? = some (enc x) := by
    intro i x hi
    obtain ⟨ecs, g1, g2⟩ := q3 i x hi
    rw [(he _ _ _ _).1 g1] at g2
    have := g2 0 (enc x) rfl
    rw [hs] at this
    simpa using this
  have hholds : Sort.Holds enc w (loc 0).blk (loc 0).off xs.toArray := by
    intro j hj
    have hj' : j < xs.length := by simpa using hj
    have hx1 : xs[j]? = some (xs.toArray[j]!) := by simp [hj']
    refine ⟨?_, by simp [World.frozen?, hb2]⟩
    simp [World.cell?, hb2, hcell j _ hx1]
  subst hv1
  have hhd : hdl (loc 0) xs.length = .slice (some ⟨(loc 0).blk, (loc 0).off, none⟩) xs.length (loc 0).cap := by simp [hdl, hnil]
  rw [hhd]
  refine (h xs hx _ _ (loc 0).cap w hholds hlt).mono ?_
  rintro e' w' ⟨rfl, n, os, rfl⟩
  have hold : ∀ b, b < w.heap.size → b ≠ (loc 0).blk → (Sort.grow (Sort.putRow enc (Sort.ahead w n) (loc 0).blk (loc 0).off (g xs).toArray) os).heap[b]? = w.heap[b]? := by
    intro b hb' hne'
    rw [Sort.heap_grow_old _ _ (by simpa [Sort.putRow, Sort.mapBlock, Sort.ahead] using hb')]
    simp [Sort.putRow, Sort.mapBlock, Sort.ahead, Array.getElem?_modify, Ne.symm hne']
  have hnew : (Sort.grow (Sort.putRow enc (Sort.ahead w n) (loc 0).blk (loc 0).off (g xs).toArray) os).heap[(loc 0).blk]? = some (.cells (Sort.putCells enc (loc 0).off (g xs).toArray c) e (0, 0)) := by
    rw [Sort.heap_grow_old _ _ (by simpa [Sort.putRow, Sort.mapBlock, Sort.ahead] using hlt)]
    simp [Sort.putRow, Sort.mapBlock, Sort.ahead, Array.getElem?_modify, hb2, Sort.onCells]
  have hsz : w.heap.size ≤ (Sort.grow (Sort.putRow enc (Sort.ahead w n) (loc 0).blk (loc 0).off (g xs).toArray) os).heap.size := by
    simp [Sort.grow, Sort.putRow, Sort.mapBlock, Sort.ahead]
  have hsm : Sm w (Sort.grow (Sort.putRow enc (Sort.ahead w n) (loc 0).blk (loc 0).off (g xs).toArray) os) := ⟨rfl, rfl⟩
  generalize Sort.grow (Sort.putRow enc (Sort.ahead w n) (loc 0).blk (loc 0).off (g xs).toArray) os = w' at hold hnew hsz hsm
  refine ⟨_, rfl, hsm, ?_⟩
  have hS : ∀ b, S b → w'.heap[b]? = w.heap[b]? := fun b hb' => hold b (hc.bS b hb') fun e => hc.nS 0 (by rw [hr0]; exact hnil) (e ▸ hb')
  have hown : ∀ (ys : List t.den) (sl : List FV) k, owns (loc k) (Fr.reg ⟨sl, [(0, .arr t ys)]⟩ k) → k = 0 := by
    intro ys sl k hk
    by_cases h0 : k = 0
    · exact h0
    · rw [hrk ys sl k h0] at hk; exact hk.elim
  refine ⟨loc, S, ⟨⟨fun k => ?_, fun k k' hk hk' _ => by rw [hown _ _ _ hk, hown _ _ _ hk'], fun k hk => ?_, fun b hb' => Nat.lt_of_lt_of_le (hc.bS b hb') hsz⟩,
    ⟨hsz, fun b hb' hn => ?_, fun _ h => h, fun _ h => .inl h, fun k hk => ?_, fun b hb' ho => ?_, hc.bS, fun k hk => ?_⟩⟩, ⟨fun k v hv => ?_, fun k o v hv => ?_, fun k i o v hv => ?_, fun k v hv => ?_, fun b hb' => ⟨hb', hS b hb'⟩⟩, ?_⟩
  · by_cases h0 : k = 0
    · subst h0
      rw [hr0]
      refine .inr ⟨hnil, _, e, hnew, by rw [hl]; exact q1, by simpa [Sort.putCells] using q2, fun i x hi => ⟨[enc x], (he _ _ _ _).2 rfl, fun j u hu => ?_⟩⟩
      have hj : j = 0 := by
        have := (List.getElem?_eq_some_iff.1 hu).1
        simpa using this
      subst hj
      simp at hu; subst hu
      have hi' : i < (g xs).length := (List.getElem?_eq_some_iff.1 hi).1
      have hcs : (loc 0).off + i < c.size := by rw [hs] at q2; rw [hl] at hi'; omega
      have hgi : (g xs)[i] = x := by
        have := List.getElem?_eq_getElem hi'
        rw [hi] at this; simpa using this.symm
      simp [Sort.putCells, hs, hcs, hi', hgi]
    · rw [hrk _ _ k h0]; trivial
  · have h0 := hown _ _ _ hk
    subst h0
    exact hc.nS 0 (by rw [hr0]; exact hnil)
  · refine hold b hb' fun e => hn ⟨0, by rw [hr0]; exact hnil, e.symm⟩
  · have h0 := hown _ _ _ hk
    subst h0
    exact .inl ⟨0, by rw [hr0]; exact hnil, rfl⟩
  · obtain ⟨k, hk, rfl⟩ := ho
    exact hc.nS k hk hb'
  · by_cases h0 : k = 0
    · subst h0; rw [hr0] at hk; cases hk
    · rw [hrk _ _ k h0] at hk; cases hk
  · by_cases h0 : k = 0
    · subst h0
      simp only [view, slRel, hr0] at hv ⊢
      rw [hl]; exact hv
    · simp only [view, slRel, hrk _ _ k h0] at hv
  · by_cases h0 : k = 0
    · subst h0
      simp only [view, ptRel, hr0]
    · simp only [view, ptRel, hrk _ _ k h0] at hv
  · by_cases h0 : k = 0
    · subst h0
      simp only [view, elRel, hr0] at hv ⊢
      rw [hl]; exact hv
    · simp only [view, elRel, hrk _ _ k h0] at hv
  · by_cases h0 : k = 0
    · subst h0
      simp only [view, mpRel, hr0]
    · simp only [view, mpRel, hrk _ _ k h0] at hv
  · exact ⟨[], rfl, rfl⟩

/-- The sorted list of strings. -/
def sortS (l : List Bytes) : List Bytes := l.mergeSort fun x y => decide (x ≤ y)
def sortIm (l : List Int) : List Int := l.mergeSort fun x y => decide (x ≤ y)

theorem sortS_sound {P : Program} {ρ : Shelf.Ren} (Ly : Proofs.Lays.n190 P ρ) {G : (Nat → Prop) → Array Obj → Prop} :
    Sound P G (ρ.f 190) (genS [false] true ⟨[.slc 0], [(0, .arr .str [])]⟩ [.slice .str] (fun x => decide (0 < List.length x.1) && decide (List.length x.1 ≤ 1000000)) (fun x => ⟨[], [(0, .arr .str (sortS x.1))]⟩)) :=
  inplace_sound (t := .str) (enc := Proofs.encStr) rfl (fun S h x cs => Iff.rfl) (ok := fun xs => decide (0 < List.length xs) && decide (List.length xs ≤ 1000000)) (g := sortS) (fun xs => List.length_mergeSort xs)
    (fun xs h e => by subst e; simp at h)
    (fun xs h blk off cap w hH hb => Proofs.Any.slices_Sort_string Ly blk off cap xs w hH hb (by simp at h; omega))

theorem sortI_sound {P : Program} {ρ : Shelf.Ren} (Ly : Proofs.Lays.n189 P ρ) {G : (Nat → Prop) → Array Obj → Prop} :
    Sound P G (ρ.f 189) (genS [false] true ⟨[.slc 0], [(0, .arr (.int .i64) [])]⟩ [.slice (.int .i64)] (fun x => decide (0 < List.length x.1) && decide (List.length x.1 ≤ 1000000)) (fun x => ⟨[], [(0, .arr (.int .i64) (sortIm x.1))]⟩)) :=
  inplace_sound (t := .int .i64) (enc := Value.int .i64) rfl (fun S h x cs => Iff.rfl) (ok := fun xs => decide (0 < List.length xs) && decide (List.length xs ≤ 1000000)) (g := sortIm) (fun xs => List.length_mergeSort xs)
    (fun xs h e => by subst e; simp at h)
    (fun xs h blk off cap w hH hb => Proofs.Any.slices_Sort_int Ly blk off cap xs w hH hb (by simp at h; omega))

/-- A contract in two parts. -/
theorem split_sound {P : Program} {G : (Nat → Prop) → Array Obj → Prop} {f : FuncId} {md : List Bool} {ret : Bool} {pat : Fr} {ts : List Tc} {ok ok1 ok2 : Tup ts → Bool} {out out1 out2 : Tup ts → Fr}
    (h1 : Sound P G f (genS md ret pat ts ok1 out1)) (h2 : Sound P G f (genS md ret pat ts ok2 out2))
    (hs : ∀ x, ok x = true → (ok1 x = true ∧ out1 x = out x) ∨ (ok2 x = true ∧ out2 x = out x)) : Sound P G f (genS md ret pat ts ok out) := by
  intro pk o hok hout
  simp only [genS] at hok hout
  cases hm : matchF pat pk with
  | none => rw [hm] at hok; cases hok
  | some hsl =>
    rw [hm] at hok hout
    simp only at hok hout
    cases hd : dats ts hsl with
    | none => rw [hd] at hok; cases hok
    | some x =>
      rw [hd] at hok hout
      simp only [Option.some.injEq] at hok hout
      rcases hs x hok with ⟨k1, k2⟩ | ⟨k1, k2⟩
      · exact h1 pk o (by simp only [genS, hm, hd]; exact k1) (by simp only [genS, hm, hd]; rw [k2, hout])
      · exact h2 pk o (by simp only [genS, hm, hd]; exact k1) (by simp only [genS, hm, hd]; rw [k2, hout])
end Go.Ev

set_option linter.unusedSimpArgs false
set_option linter.unusedVariables false
namespace Go.Ev
open Go

/-! ### functions that are evaluated whole, at inputs that are known -/
def Le (o o' : Option Fr) : Prop := ∀ r, o = some r → o' = some r

theorem le_bind {α : Type} {o : Option α} {f g : α → Option Fr} (h : ∀ x, Le (f x) (g x)) : Le (o.bind f) (o.bind g) := by
  intro r hr
  cases o with
  | none => cases hr
  | some x => exact h x r hr

theorem runOpsF_mono {E : Env} {C : Cfg} {ops l : List Oper} {fr : Fr} {K K' : Fr → Option Fr} (h : ∀ fr, Le (K fr) (K' fr)) : Le (runOpsF E C ops l fr K) (runOpsF E C ops l fr K') := by
  obtain ⟨o, ho⟩ := runOps_bind (E := E) (C := C) (ops := ops) (ρ := Fr) l fr
  rw [runOpsF_eq, runOpsF_eq, ho, ho]
  exact le_bind h

theorem runOpsTF_mono {E : Env} {C : Cfg} {ops : List Oper} {fr : Fr} {K K' : Fr → Option Fr} (h : ∀ fr, Le (K fr) (K' fr)) : Le (runOpsTF E C ops ops [] fr K) (runOpsTF E C ops ops [] fr K') := by
  obtain ⟨o, ho⟩ := runOpsT_bind (E := E) (C := C) (ops := ops) (ρ := Fr) ops [] fr
  rw [runOpsTF_eq _ _ _ _ (by simp), runOpsTF_eq _ _ _ _ (by simp), ho, ho]
  exact le_bind h

theorem both_mono {a b a' b' : Option Fr} (h1 : Le a a') (h2 : Le b b') : Le (both a b) (both a' b') := by
  intro r hr
  obtain ⟨g1, g2⟩ := both_some.1 hr
  exact both_some.2 ⟨h1 r g1, h2 r g2⟩

theorem allN_mono {n : Nat} {f g : Nat → Option Fr} (h : ∀ i, Le (f i) (g i)) : Le (allN n f) (allN n g) := by
  intro r hr
  obtain ⟨g1, g2⟩ := allN_some.1 hr
  exact allN_some.2 ⟨g1, fun i hi => h i r (g2 i hi)⟩

theorem cond_mono {q : Bool} {a b a' b' : Option Fr} (h1 : Le a a') (h2 : Le b b') : Le (cond q a b) (cond q a' b') := by cases q <;> assumption

theorem le_rfl {o : Option Fr} : Le o o := fun _ h => h

theorem nrmH_mono {C : Cfg} {pre b : Nat} {fr : Fr} {K K' : Fr → Option Fr} (h : ∀ fr, Le (K fr) (K' fr)) : Le (nrmH C pre b fr K) (nrmH C pre b fr K') := by
  rw [nrmH_eq, nrmH_eq]; exact le_bind h

theorem runS_mono {E : Env} {C : Cfg} {pre : Nat} {H H' : List It → Ex → Fr → Option Fr} (hH : ∀ k e fr, Le (H k e fr) (H' k e fr)) : ∀ (c : Code) (b : Nat) (k : List It) (fr : Fr) (K K' : Ex → Fr → Option Fr), (∀ e fr, Le (K e fr) (K' e fr)) →
    Le (runS E C pre H b c k fr K) (runS E C pre H' b c k fr K')
  | .skip, b, k, fr, K, K', h => h _ _
  | .region id ops draw, b, k, fr, K, K', h => cond_mono (runOpsTF_mono (h .normal)) (runOpsF_mono (h .normal))
  | .seq x y, b, k, fr, K, K', h => by
    refine runS_mono hH x b _ fr _ _ fun e fr' => ?_
    cases e with
    | normal => exact runS_mono hH y b k fr' K K' h
    | exit i => exact h _ _
    | ret => exact h _ _
  | .cond c x y, b, k, fr, K, K', h => by
    simp only [runS]
    split
    · split
      · split
        · exact cond_mono (runS_mono hH x b k _ K K' h) (runS_mono hH y b k _ K K' h)
        · exact both_mono (runS_mono hH x b k _ K K' h) (runS_mono hH y b k _ K K' h)
        · exact le_rfl
      · split
        · exact cond_mono (allN_mono fun i => runS_mono hH x b k _ K K' h) le_rfl
        · exact le_rfl
    · exact cond_mono (runS_mono hH x b k fr K K' h) (runS_mono hH y b k fr K K' h)
    · exact le_rfl
  | .block i x, b, k, fr, K, K', h => by
    refine runS_mono hH x i _ fr _ _ fun e fr' => ?_
    cases e with
    | normal => exact h _ _
    | exit j => exact cond_mono (h _ _) (h _ _)
    | ret => exact h _ _
  | .loop x, b, k, fr, K, K', h => nrmH_mono fun fr => hH _ _ _
  | .exit i, b, k, fr, K, K', h => h _ _
  | .ret, b, k, fr, K, K', h => h _ _
  | .rangeFunc g ps asg body, b, k, fr, K, K', h => by
    simp only [runS, Pr.exec_go]
    exact le_bind fun x => nrmH_mono fun fr => hH _ _ _
  | .scope _, b, k, fr, K, K', h => le_rfl
  | .label _, b, k, fr, K, K', h => le_rfl
  | .goto _, b, k, fr, K, K', h => le_rfl
  | .refuse _, b, k, fr, K, K', h => le_rfl

theorem contS_mono {E : Env} {C : Cfg} {pre : Nat} {F : Ex → Fr → Option Fr} {H H' : List It → Ex → Fr → Option Fr} (hH : ∀ k e fr, Le (H k e fr) (H' k e fr)) : ∀ (k : List It) (e : Ex) (fr : Fr),
    Le (contS E C pre F H k e fr) (contS E C pre F H' k e fr)
  | [], e, fr => le_rfl
  | .code b c :: k, .normal, fr => runS_mono hH c b k fr _ _ (contS_mono hH k)
  | .code b c :: k, .exit i, fr => contS_mono hH k _ _
  | .code b c :: k, .ret, fr => contS_mono hH k _ _
  | .blk i :: k, .normal, fr => contS_mono hH k _ _
  | .blk i :: k, .ret, fr => contS_mono hH k _ _
  | .blk i :: k, .exit j, fr => cond_mono (contS_mono hH k _ _) (contS_mono hH k _ _)
  | .lp b x :: k, .normal, fr => nrmH_mono fun fr => hH _ _ _
  | .lp b x :: k, .exit i, fr => contS_mono hH k _ _
  | .lp b x :: k, .ret, fr => contS_mono hH k _ _
  | .rf b ps asg body rem :: k, .normal, fr => nrmH_mono fun fr => hH _ _ _
  | .rf b ps asg body rem :: k, .exit i, fr => le_rfl
  | .rf b ps asg body rem :: k, .ret, fr => le_rfl
  | .rg b ps asg body rem :: k, e, fr => hH _ _ _
  | .rb b body :: k, .normal, fr => cond_mono (runS_mono hH body b k fr _ _ (contS_mono hH k)) le_rfl
  | .rb b body :: k, .exit i, fr => le_rfl
  | .rb b body :: k, .ret, fr => le_rfl
  | .re b sl ps asg body rem :: k, .normal, fr => nrmH_mono fun fr => hH _ _ _
  | .re b sl ps asg body rem :: k, .exit i, fr => le_rfl
  | .re b sl ps asg body rem :: k, .ret, fr => le_rfl

/-- A frame as a tree, made plain. -/
def frK (fr : Fr) {ρ : Type} (K : Fq → ρ) : ρ := fcF fr fun fr => mkTK (num0 0 fr.slots) .leaf fun t => K ⟨fr.slots.length, t, fr.regs⟩

theorem ascB_num0 : ∀ (l : List FV) (i : Nat), ascB i (num0 i l) = true
  | [], i => rfl
  | v :: l, i => by
    simp only [num0, ascB]
    rw [show Nat.ble i i = true from Nat.ble_eq_true_of_le (Nat.le_refl _)]
    exact ascB_num0 l (i + 1)

theorem frK_eq (fr : Fr) {ρ : Type} (K : Fq → ρ) : ∃ q : Fq, frK fr K = K q ∧ q.to = fr := by
  refine ⟨⟨fr.slots.length, mkT (num0 0 fr.slots) .leaf, fr.regs⟩, by unfold frK; rw [fcF_eq, mkTK_eq], ?_⟩
  rw [← mkF_to _ _ _ (ascB_num0 _ _)]
  unfold mkF
  rw [mkS_num0 _ 0 _ (Nat.le_refl _)]
  simp

/-- The run up to so many heads of loops. -/
noncomputable def FnI.evS (I : FnI) : Nat → List It → Ex → Fr → Option Fr
  | 0 => fun _ _ _ => none
  | n + 1 => fun k e fr => match e with
    | .normal => match k with
      | .code b c :: k => frK fr fun q => runSQ I.E I.C I.pre (I.evS n) b c k q (contSQ I.E I.C I.pre I.FQ (I.evS n) k)
      | .rg b ps asg body rem :: k => cond (noAux fr.regs) (match rem with
        | [] => frK fr fun q => contSQ I.E I.C I.pre I.FQ (I.evS n) k .normal q
        | v :: rem => fcF fr fun fr => frK ⟨putS fr.slots ps v, fr.regs⟩ fun q => runSQ I.E I.C I.pre (I.evS n) b asg (.rb b body :: .re b fr.slots ps asg body rem :: k) q (contSQ I.E I.C I.pre I.FQ (I.evS n) (.rb b body :: .re b fr.slots ps asg body rem :: k))) none
      | _ => none
    | _ => none

theorem FnI.evS_T (I : FnI) : ∀ (n : Nat) (k : List It) (e : Ex) (fr : Fr), Le (I.evS n k e fr) (Ev.T I.E I.C I.pre I.F k e fr)
  | 0, k, e, fr => fun r h => by cases h
  | n + 1, k, e, fr => fun r h => by
    have hF : ∀ e q, I.FQ e q = I.F e q.to := fun e q => finQ_eq _ _ _ _ e q
    have key : ∀ (b : Nat) (c : Code) (k : List It) (q : Fq), runSQ I.E I.C I.pre (I.evS n) b c k q (contSQ I.E I.C I.pre I.FQ (I.evS n) k) = some r → Ev.T I.E I.C I.pre I.F (.code b c :: k) .normal q.to = some r := by
      intro b c k q h
      rw [runSQ_eq c b k q _ _ (contSQ_eq hF k)] at h
      rw [T_code]
      exact runS_mono (I.evS_T n) c b k q.to _ _ (contS_mono (I.evS_T n) k) r h
    simp only [FnI.evS] at h
    split at h
    · split at h
      · rename_i b c k
        obtain ⟨q, h1, h2⟩ := frK_eq fr (fun q => runSQ I.E I.C I.pre (I.evS n) b c k q (contSQ I.E I.C I.pre I.FQ (I.evS n) k))
        rw [h1] at h
        rw [← h2]; exact key b c k q h
      · rename_i b ps asg body rem k
        rw [T_step]
        cases hna : noAux fr.regs with
        | false => rw [hna] at h; cases h
        | true =>
        rw [hna, cond_true] at h
        cases rem with
        | nil =>
          simp only [stepF, hna, cond_true]
          simp only at h
          obtain ⟨q, h1, h2⟩ := frK_eq fr (fun q => contSQ I.E I.C I.pre I.FQ (I.evS n) k .normal q)
          rw [h1, contSQ_eq hF, h2] at h
          rw [← contS_T]
          exact contS_mono (I.evS_T n) k _ _ r h
        | cons v rem =>
          simp only [stepF, hna, cond_true]
          simp only [fcF_eq] at h
          obtain ⟨q, h1, h2⟩ := frK_eq ⟨putS fr.slots ps v, fr.regs⟩ (fun q => runSQ I.E I.C I.pre (I.evS n) b asg (.rb b body :: .re b fr.slots ps asg body rem :: k) q (contSQ I.E I.C I.pre I.FQ (I.evS n) (.rb b body :: .re b fr.slots ps asg body rem :: k)))
          rw [h1] at h
          rw [← h2]; exact key _ _ _ q h
      · cases h
    · cases h

noncomputable def FnI.evRun (I : FnI) (n : Nat) (pk : Fr) : Option Fr :=
  cond (pk.regs.all fun p => Nat.blt p.1 I.pre && !p.2.aux) (I.evS n [.code 0 I.code] .normal ⟨pk.slots ++ List.replicate (I.fn.ntmps - pk.slots.length) .undef, pk.regs⟩) none

theorem FnI.evRun_run (I : FnI) {n : Nat} {pk out : Fr} (h : I.evRun n pk = some out) : I.run pk = some out := by
  unfold FnI.evRun at h
  unfold FnI.run
  cases hall : pk.regs.all fun p => Nat.blt p.1 I.pre && !p.2.aux with
  | false => rw [hall] at h; cases h
  | true =>
    rw [hall] at h
    exact I.evS_T n _ _ _ out h

/-- The contract that is the evaluation. -/
noncomputable def evSpec (E : Env) (C : Cfg) (fn : Func) (code : Code) (ms : List RM) (md : List Bool) (ret : Bool) (n : Nat) : Spec :=
  ⟨md, ret, fun _ => true, fun pk => ((FnI.mk E C fn code ms pk.regs.length).evRun n pk).bind fun out => fcF out some⟩

theorem evSpec_sound {P : Program} {E : Env} (hE : EnvOk P E) (hm : P.follows .mixedOrders = true) {f : FuncId} {C : Cfg} {fn : Func} {code : Code} {ms : List RM} {md : List Bool} {ret : Bool} {n : Nat} (hf : P.funcs[f]? = some fn) (hb : fn.body = some code)
    (hn : (fn.name == "runtime.NumGoroutine") = false) : Sound P E.gl f (evSpec E C fn code ms md ret n) ∧ Enters P f := by
  refine ⟨fun pk out hok hout => ?_, enters_of hf hb hn⟩
  have hr : (FnI.mk E C fn code ms pk.regs.length).evRun n pk = some out := by
    simp only [evSpec] at hout
    cases h : (FnI.mk E C fn code ms pk.regs.length).evRun n pk with
    | none => rw [h] at hout; cases hout
    | some x => rw [h] at hout; simp only [Option.bind_some, fcF_eq] at hout; exact hout
  refine (FnI.mk E C fn code ms pk.regs.length).sound (s := ⟨md, ret, fun _ => true, fun p => (FnI.mk E C fn code ms pk.regs.length).evRun n p⟩) hE hm hf hb (fun p o _ h => FnI.evRun_run _ h) pk out rfl hr

theorem env_ev {P : Program} {E : Env} (hE : EnvOk P E) (hm : P.follows .mixedOrders = true) (f : FuncId) (C : Cfg) (ms : List RM) (md : List Bool) (ret : Bool) (n : Nat) {fn : Func} {code : Code} (hf : P.funcs[f]? = some fn) (hb : fn.body = some code)
    (hn : (fn.name == "runtime.NumGoroutine") = false) : EnvOk P (E.add f (evSpec E C fn code ms md ret n)) := env_add hE (evSpec_sound hE hm hf hb hn)

/-- A function without arguments, evaluated. -/
theorem ev_const {P : Program} {G : (Nat → Prop) → Array Obj → Prop} {f : FuncId} {s : Spec} (h : Sound P G f s) {ret : Bool} {out : Fr} (hok : s.ok ⟨[], []⟩ = true) (hout : s.fn ⟨[], []⟩ = some out) : Sound P G f (genS [] ret ⟨[], []⟩ [] (fun _ => true) (fun _ => out)) := by
  refine gen_of (P := P) (G := G) (f := f) (fun pk o => ∀ (vals : List Value) (w : World) (loc : Nat → Loc) (S : Nat → Prop), Core pk.reg loc S w.heap → G S w.heap →
    RelVs (view pk.reg loc S w.heap) pk.slots vals →
    Calls P f vals.toArray w fun e w' => ∃ u, e = .returned u ∧ Sm w w' ∧ ∃ loc' S', Ctx (entOf pk loc S w.heap) o.reg loc' S' w'.heap ∧
      (view pk.reg loc S w.heap).le (view o.reg loc' S' w'.heap) ∧ RelV (view o.reg loc' S' w'.heap) (resFV o.slots) u) ?_
  intro x _
  exact h _ _ hok hout

end Go.Ev

set_option linter.unusedSimpArgs false
set_option linter.unusedVariables false
namespace Go.Ev
open Go

/-! ### slices.Backward -/
def isOp (o : Oper) (d : Tmp) (op : Op) : Prop := o.dst = some d ∧ o.op = op ∧ o.guard = none

theorem step_val {P : Program} {n : Nat} {ops : Array Oper} {Q : Exit → Act → World → Prop} {o : Oper} {l : List Oper} {a : Act} {w : World} {u : Value} {d : Tmp} {op : Op} (ho : isOp o d op) (hd : ∀ c, op ≠ .defer c)
    (hr : (execOp a.eval o).run P w = .ok (.value u) w) (h : wpListIn Fence.wide n P ops Q l (a.put (some d) u) w) : wpListIn Fence.wide n P ops Q (o :: l) a w := by
  refine wpListIn_plain ho.2.2 fun K hK => ?_
  unfold Oper.wpIn
  refine ⟨fun _ _ => trivial, ?_⟩
  rw [Oper.semAt_plain Fence.wide a.eval o (by rw [ho.2.1]; exact hd), hr, Oper.uponIn_value, ho.1]
  exact hK _ _ h

theorem put_get {a : Act} {d i : Nat} {u : Value} (hd : d < a.tmps.size) : (a.put (some d) u).tmps[i]? = if i = d then some u else a.tmps[i]? := by
  simp only [Act.put, Array.getElem?_setIfInBounds]
  by_cases h : i = d
  · subst h; simp [hd]
  · rw [if_neg (Ne.symm h), if_neg h]

theorem put_size {a : Act} {d : Nat} {u : Value} : (a.put (some d) u).tmps.size = a.tmps.size := by simp [Act.put]

theorem eval_get {a : Act} {i : Nat} {u : Value} (h : a.tmps[i]? = some u) : a.eval (.tmp i) = u := by
  simp [Act.eval, h]

theorem ex_move {o : Oper} {d : Tmp} {x : Operand} (ho : isOp o d (.move x)) {ρ : Operand → Value} {P : Program} {w : World} : (execOp ρ o).run P w = .ok (.value (ρ x)) w := by
  obtain ⟨_, _, _, _, _, _⟩ := o; obtain ⟨h1, h2, h3⟩ := ho; simp only at h2; subst h2; rfl
theorem ex_assign {o : Oper} {d : Tmp} {x : Operand} (ho : isOp o d (.assign x)) {ρ : Operand → Value} {P : Program} {w : World} : (execOp ρ o).run P w = .ok (.value (ρ x)) w := by
  obtain ⟨_, _, _, _, _, _⟩ := o; obtain ⟨h1, h2, h3⟩ := ho; simp only at h2; subst h2; rfl
theorem ex_load {o : Oper} {d : Tmp} {t : TypeId} {x : Operand} (ho : isOp o d (.load t x)) {ρ : Operand → Value} {P : Program} {w : World} {v : Value} (h : (Instr.loadAt t (ρ x)).run P w = .ok v w) : (execOp ρ o).run P w = .ok (.value v) w := by
  obtain ⟨_, _, _, _, _, _⟩ := o; obtain ⟨h1, h2, h3⟩ := ho; simp only at h2; subst h2; exact val_run h
theorem ex_index {o : Oper} {d : Tmp} {t : TypeId} {x i : Operand} (ho : isOp o d (.indexAddr t x i)) {ρ : Operand → Value} {P : Program} {w : World} {v : Value} (h : (Instr.indexAt t (ρ x) (ρ i)).run P w = .ok v w) : (execOp ρ o).run P w = .ok (.value v) w := by
  obtain ⟨_, _, _, _, _, _⟩ := o; obtain ⟨h1, h2, h3⟩ := ho; simp only at h2; subst h2; exact val_run h
theorem ex_bin {o : Oper} {d : Tmp} {op : BinOp} {xt yt : TypeId} {x y : Operand} (ho : isOp o d (.binOp op xt x y yt)) {ρ : Operand → Value} {P : Program} {w : World} {v : Value} (h : ((do eqGuard op xt x y (ρ x) (ρ y); binOp op xt (ρ x) (ρ y)) : Sem Value).run P w = .ok v w) : (execOp ρ o).run P w = .ok (.value v) w := by
  obtain ⟨_, _, _, _, _, _⟩ := o; obtain ⟨h1, h2, h3⟩ := ho; simp only at h2; subst h2; exact val_run h
theorem ex_not {o : Oper} {d : Tmp} {xt : TypeId} {x : Operand} (ho : isOp o d (.unOp .not xt x)) {ρ : Operand → Value} {P : Program} {w : World} {q : Bool} (h : ρ x = .bool q) : (execOp ρ o).run P w = .ok (.value (.bool !q)) w := by
  obtain ⟨_, _, _, _, _, _⟩ := o; obtain ⟨h1, h2, h3⟩ := ho; simp only at h2; subst h2
  refine val_run ?_
  rw [h]; rfl
theorem ex_len {o : Oper} {d : Tmp} {t : TypeId} {x : Operand} (ho : isOp o d (.call ⟨.builtin .len, #[x], #[t]⟩)) {ρ : Operand → Value} {P : Program} {w : World} {v : Value} (h : ∀ ty, (Builtin.len_ #[t] ty #[ρ x]).run P w = .ok v w) : (execOp ρ o).run P w = .ok (.value v) w := by
  obtain ⟨_, _, ty, _, _, _⟩ := o; obtain ⟨h1, h2, h3⟩ := ho; simp only at h2; subst h2
  exact val_run (s := Builtin.len_ #[t] ty (Array.map ρ #[x])) (by simpa using h ty)
theorem ex_call {o : Oper} {d : Tmp} {x : Operand} {cs : Array Operand} {ts : Array TypeId} (ho : isOp o d (.call ⟨.value x, cs, ts⟩)) {ρ : Operand → Value} {P : Program} {w : World} {l : Nat} {f : FuncId} {tmps : Array Value} {asg body : Code}
    (hx : ρ x = .func (.yield l) #[] #[]) (h : (Instr.yield l (cs.map ρ)).run P w = .ok (.round l f tmps asg body) w) : (execOp ρ o).run P w = .ok (.round l f tmps asg body) w := by
  obtain ⟨_, _, ty, _, _, _⟩ := o; obtain ⟨h1, h2, h3⟩ := ho; simp only at h2; subst h2
  simp [execOp, resolve, invoke, hx, h, go_sem]

/-- The code of slices.Backward's closure. -/
def BackC (code : Code) (sl el : TypeId) : Prop :=
  ∃ (i0 i1 i2 i3 b0 b1 : Nat) (it bt : TypeId) (l0 l1 l2 l3 : Array Oper) (a1 a2 a3 a4 p1 p2 c1 c2 c3 c4 c5 c6 c7 c8 d1 d2 d3 : Oper) (ty : Array TypeId),
    code = .seq (.region i0 l0 false) (.block b0 (.loop (.seq (.seq (.region i1 l1 false) (.cond (.tmp 8) .skip (.exit b0))) (.seq (.block b1 (.seq (.region i3 l3 false) (.cond (.tmp 18) .ret .skip))) (.region i2 l2 false))))) ∧
    l0.toList = [a1, a2, a3, a4] ∧ l1.toList = [p1, p2] ∧ l2.toList = [d1, d2, d3] ∧ l3.toList = [c1, c2, c3, c4, c5, c6, c7, c8] ∧
    isOp a1 4 (.load sl (.tmp 1)) ∧ isOp a2 5 (.call ⟨.builtin .len, #[.tmp 4], #[sl]⟩) ∧ isOp a3 6 (.binOp .sub it (.tmp 5) (.const (.int .i64 1)) it) ∧ isOp a4 3 (.assign (.tmp 6)) ∧
    isOp p1 7 (.move (.tmp 3)) ∧ isOp p2 8 (.binOp .geq it (.tmp 7) (.const (.int .i64 0)) it) ∧
    isOp c1 11 (.move (.tmp 0)) ∧ isOp c2 12 (.move (.tmp 3)) ∧ isOp c3 13 (.load sl (.tmp 1)) ∧ isOp c4 14 (.move (.tmp 3)) ∧ isOp c5 15 (.indexAddr sl (.tmp 13) (.tmp 14)) ∧ isOp c6 16 (.load el (.tmp 15)) ∧
    isOp c7 17 (.call ⟨.value (.tmp 11), #[.tmp 12, .tmp 16], ty⟩) ∧ isOp c8 18 (.unOp .not bt (.tmp 17)) ∧
    isOp d1 9 (.move (.tmp 3)) ∧ isOp d2 10 (.binOp .sub it (.tmp 9) (.const (.int .i64 1)) it) ∧ isOp d3 3 (.assign (.tmp 10))

/-- Nothing is anybody's. -/
theorem core_none {S : Nat → Prop} {h : Array Obj} (hS : ∀ b, S b → b < h.size) : Core (Fr.reg ⟨[], []⟩) (fun _ => ⟨0, 0, 0, true, none⟩) S h :=
  ⟨fun k => trivial, fun k k' h => h.elim, fun k h => h.elim, hS⟩

abbrev vw0 (S : Nat → Prop) (h : Array Obj) : Vw := view (Fr.reg ⟨[], []⟩) (fun _ => ⟨0, 0, 0, true, none⟩) S h

theorem yl_load {P : Program} {E : Env} (hE : EnvOk P E) {S : Nat → Prop} {w : World} (hS : ∀ b, S b → b < w.heap.size) {t : TypeId} {ti : TI} (ht : E.tt t = some ti) {tc : Tc} (hc : ti.tc = some tc) {x : tc.den} {u : Value}
    (hr : RelV (vw0 S w.heap) (.fp tc x) u) : ∃ v, (Instr.loadAt t u).run P w = .ok v w ∧ RelVal S w.heap tc x v := by
  have hgo : (loadV E t (.fp tc x)).go ⟨[], []⟩ = some (.dat tc x, ⟨[], []⟩) := by
    simp [loadV, popt, ht, hc, Pr.go]
  obtain ⟨_, v, h1, h2⟩ := load_ok hE (fr := ⟨[], []⟩) hgo (core_none hS) hr
  exact ⟨v, h1, h2⟩

theorem yl_len {P : Program} {E : Env} (hE : EnvOk P E) {S : Nat → Prop} {w : World} (hS : ∀ b, S b → b < w.heap.size) {t e : TypeId} {ti te : TI} (ht : E.tt t = some ti) (hl : ti.elem = some e) (he : E.tt e = some te) {tc : Tc} (hc : te.tc = some tc) {xs : List tc.den} {u : Value}
    (hr : RelVal S w.heap (.slice tc) xs u) (ty : TypeId) : (Builtin.len_ #[t] ty #[u]).run P w = .ok (.int .i64 xs.length) w := by
  have hgo : (lenV E t (.dat (.slice tc) xs)).go ⟨[], []⟩ = some (dI .i64 xs.length, ⟨[], []⟩) := by
    simp [lenV, lenS, elemTc, popt, ht, hl, he, hc, Pr.go]
  obtain ⟨_, v, h1, h2⟩ := len_ok (ty := ty) hE (fr := ⟨[], []⟩) hgo (core_none hS) hr
  cases h2
  exact h1

theorem yl_index {P : Program} {E : Env} (hE : EnvOk P E) {S : Nat → Prop} {w : World} (hS : ∀ b, S b → b < w.heap.size) {t e : TypeId} {ti te : TI} (ht : E.tt t = some ti) (hl : ti.elem = some e) (he : E.tt e = some te) {tc : Tc} (hc : te.tc = some tc) {xs : List tc.den} {u : Value}
    (hr : RelVal S w.heap (.slice tc) xs u) {m : Nat} {x : tc.den} (hx : xs[m]? = some x) : ∃ v, (Instr.indexAt t u (.int .i64 m)).run P w = .ok v w ∧ RelV (vw0 S w.heap) (.fp tc x) v := by
  have hm : m < List.length xs := (List.getElem?_eq_some_iff.1 hx).1
  have hgo : (indexAddrV E t (.dat (.slice tc) xs) (dI .i64 m)).go ⟨[], []⟩ = some (.fp tc x, ⟨[], []⟩) := by
    have hg : xs[m] = x := (List.getElem?_eq_some_iff.1 hx).2
    simp [indexAddrV, elemTc, popt, ht, hl, he, hc, Pr.go, asI, Pr.bind, guard, dI, hm, hg]
  obtain ⟨_, v, h1, h2⟩ := indexAddr_ok hE (fr := ⟨[], []⟩) (ui := .int .i64 m) hgo (core_none hS) hr rfl
  exact ⟨v, h1, h2⟩

theorem put_at {a : Act} {d i : Nat} {u : Value} : (a.put (some d) u).tmps[i]? = if i = d ∧ d < a.tmps.size then some u else a.tmps[i]? := by
  by_cases hd : d < a.tmps.size
  · rw [put_get hd]
    by_cases h : i = d <;> simp [h, hd]
  · rw [if_neg (fun h => hd h.2)]
    simp only [Act.put]
    rw [Array.setIfInBounds, dif_neg hd]

theorem put_defers {a : Act} {d : Nat} {u : Value} : (a.put (some d) u).defers = a.defers := rfl

theorem yl_sub {P : Program} {w : World} {it : TypeId} {xo yo : Operand} {x y : Int} : ((do eqGuard .sub it xo yo (.int .i64 x) (.int .i64 y); binOp .sub it (.int .i64 x) (.int .i64 y)) : Sem Value).run P w = .ok (.int .i64 (IntKind.wrap .i64 (x - y))) w := by
  simp [eqGuard, binOp, go_sem]

theorem yl_geq {P : Program} {w : World} {it : TypeId} {xo yo : Operand} {x y : Int} : ((do eqGuard .geq it xo yo (.int .i64 x) (.int .i64 y); binOp .geq it (.int .i64 x) (.int .i64 y)) : Sem Value).run P w = .ok (.bool (decide (x ≥ y))) w := by
  simp [eqGuard, binOp, go_sem]

theorem start_at (x y : Value) : (#[x, y] ++ Array.replicate (19 - (#[x, y] : Array Value).size) undef)[0]? = some x ∧ (#[x, y] ++ Array.replicate (19 - (#[x, y] : Array Value).size) undef)[1]? = some y ∧
    (#[x, y] ++ Array.replicate (19 - (#[x, y] : Array Value).size) undef).size = 19 := by
  refine ⟨?_, ?_, ?_⟩
  · rw [Array.getElem?_append_left (by simp)]; rfl
  · rw [Array.getElem?_append_left (by simp)]; rfl
  · simp

theorem step_put {P : Program} {n : Nat} {ops : Array Oper} {Q : Exit → Act → World → Prop} {o : Oper} {l : List Oper} {a : Act} {w : World} {u : Value} {d : Tmp} {op : Op} (ho : isOp o d op) (hd : ∀ c, op ≠ .defer c) (hs : a.tmps.size = 19) (hl : Nat.blt d 19 = true)
    (hr : (execOp a.eval o).run P w = .ok (.value u) w) (h : ∀ a' : Act, a'.tmps.size = 19 → a'.defers = a.defers → a'.tmps[d]? = some u → (∀ i, i ≠ d → a'.tmps[i]? = a.tmps[i]?) → wpListIn Fence.wide n P ops Q l a' w) :
    wpListIn Fence.wide n P ops Q (o :: l) a w := by
  have hlt : d < a.tmps.size := by rw [hs]; exact Nat.le_of_ble_eq_true hl
  refine step_val ho hd hr (h _ (put_size.trans hs) rfl ?_ fun i hi => ?_)
  · rw [put_get hlt, if_pos rfl]
  · rw [put_get hlt, if_neg hi]

set_option maxHeartbeats 1000000 in
/-- slices.Backward's closure keeps its word. -/
theorem back_ok {P : Program} {E : Env} (hE : EnvOk P E) {f : FuncId} {fn : Func} {code : Code} (hf : P.funcs[f]? = some fn) (hb : fn.body = some code) (hn : fn.ntmps = 19) (hres : fn.results = #[]) {sl el : TypeId} (hC : BackC code sl el) {ts te : TI} {t : Tc}
    (hts : E.tt sl = some ts) (hel : ts.elem = some el) (htc : ts.tc = some (.slice t)) (hte : E.tt el = some te) (hec : te.tc = some t) : BackOK P f t := by
  obtain ⟨i0, i1, i2, i3, b0, b1, it, bt, l0, l1, l2, l3, a1, a2, a3, a4, p1, p2, c1, c2, c3, c4, c5, c6, c7, c8, d1, d2, d3, ty, rfl, e0, e1, e2, e3, A1, A2, A3, A4, P1, P2, C1, C2, C3, C4, C5, C6, C7, C8, D1, D2, D3⟩ := hC
  intro W b e u S xs hbk hru hS hlen l J hJ hY h0 n
  have hkeep : ∀ m W1, J m W1 → ∀ s, (S s ∨ s = b) → W1.heap[s]? = W.heap[s]? := by
    rintro m W1 h s (hs | rfl)
    · exact (hJ m W1 h).2 s hs
    · exact (hJ m W1 h).1
  have hlt : ∀ s, (S s ∨ s = b) → s < W.heap.size := by
    rintro s (hs | rfl)
    · exact hS s hs
    · exact (Array.getElem?_eq_some_iff.1 hbk).1
  have hS1 : ∀ m W1, J m W1 → ∀ s, (S s ∨ s = b) → s < W1.heap.size := by
    intro m W1 h s hs
    have h1 := hkeep m W1 h s hs
    rw [Array.getElem?_eq_getElem (hlt s hs)] at h1
    exact (Array.getElem?_eq_some_iff.1 h1).1
  have hrd : ∀ m W1, J m W1 → RelD (fun s => S s ∨ s = b) W1.heap (.slice t) xs [u] := fun m W1 h => RelD_mono (fun s hs => ⟨.inl hs, hkeep m W1 h s (.inl hs)⟩) _ _ _ hru
  have hbox : ∀ m W1, J m W1 → RelV (vw0 (fun s => S s ∨ s = b) W1.heap) (.fp (.slice t) xs) (.pointer (some ⟨b, 0, none⟩)) := by
    intro m W1 h
    refine ⟨⟨b, 0, none⟩, [u], rfl, rfl, .inr rfl, hrd m W1 h, fun j v hj => ?_⟩
    have hb1 : W1.heap[b]? = some (.cells #[u] e (0, 0)) := (hkeep m W1 h b (.inr rfl)).trans hbk
    show cellAt W1.heap b (0 + j) = some v
    rw [cell_blk hb1, Nat.zero_add]
    exact (List.getElem?_toArray (xs := [u]) (i := j)).trans hj
  have hxl : ((List.length xs : Nat) : Int) ≤ 1099511627776 := by have := hlen; omega
  refine callsIn_of_wp hf hb trivial ?_
  -- ahead of the loop
  refine wpIn_seq (wpIn_region_list ?_)
  rw [e0]
  obtain ⟨sv, hl1, hr1⟩ := yl_load (P := P) hE (hS1 _ _ h0) hts htc (hbox _ _ h0)
  rw [hn]
  generalize hA : (⟨#[.func (.yield l) #[] #[], .pointer (some ⟨b, 0, none⟩)] ++ Array.replicate (19 - (#[Value.func (.yield l) #[] #[], .pointer (some ⟨b, 0, none⟩)] : Array Value).size) undef, []⟩ : Act) = A
  have hst := start_at (.func (.yield l) #[] #[]) (.pointer (some ⟨b, 0, none⟩))
  have g0 : A.tmps[0]? = some (.func (.yield l) #[] #[]) := by rw [← hA]; exact hst.1
  have g1 : A.tmps[1]? = some (.pointer (some ⟨b, 0, none⟩)) := by rw [← hA]; exact hst.2.1
  have gs : A.tmps.size = 19 := by rw [← hA]; exact hst.2.2
  have gd : A.defers = [] := by rw [← hA]
  clear hA
  refine step_put A1 (fun _ => by simp) gs rfl (ex_load A1 (v := sv) (by rw [eval_get g1]; exact hl1)) ?_
  intro B1 s1 f1 q1 k1
  refine step_put A2 (fun _ => by simp) s1 rfl (ex_len A2 (v := .int .i64 xs.length) fun ty => by rw [eval_get q1]; exact yl_len hE (hS1 _ _ h0) hts hel hte hec hr1 ty) ?_
  intro B2 s2 f2 q2 k2
  refine step_put A3 (fun _ => by simp) s2 rfl (ex_bin A3 (by rw [eval_get q2]; exact yl_sub)) ?_
  intro B3 s3 f3 q3 k3
  refine step_put A4 (fun _ => by simp) s3 rfl (ex_assign A4) ?_
  intro B4 s4 f4 q4 k4
  rw [eval_get q3] at q4
  refine wpListIn_nil ?_
  simp only [Exit.then]
  have hwr : IntKind.wrap .i64 ((List.length xs : Int) - 1) = (List.length xs : Int) - 1 := wrap_in (by omega) (by omega)
  rw [hwr] at q4
  refine wpIn_block (wpIn_loop_ghost (fun m a w => J m w ∧ m ≤ List.length xs ∧ a.defers = [] ∧ a.tmps.size = 19 ∧ a.tmps[0]? = some (.func (.yield l) #[] #[]) ∧ a.tmps[1]? = some (.pointer (some ⟨b, 0, none⟩)) ∧ a.tmps[3]? = some (.int .i64 ((m : Int) - 1))) (List.length xs)
    ⟨h0, Nat.le_refl _, by rw [f4, f3, f2, f1, gd], s4, (((k4 0 (by decide)).trans (k3 0 (by decide))).trans (k2 0 (by decide))).trans ((k1 0 (by decide)).trans g0), (((k4 1 (by decide)).trans (k3 1 (by decide))).trans (k2 1 (by decide))).trans ((k1 1 (by decide)).trans g1), q4⟩ ?_)
  rintro m a w ⟨hj, hm, ad, as_, a0, a1', a3⟩
  have hmi : (m : Int) ≤ 1099511627776 := by omega
  -- the head
  refine wpIn_seq (wpIn_seq (wpIn_region_list ?_))
  rw [e1]
  refine step_put P1 (fun _ => by simp) as_ rfl (ex_move P1) ?_
  intro B1 s1 f1 q1 k1
  rw [eval_get a3] at q1
  refine step_put P2 (fun _ => by simp) s1 rfl (ex_bin P2 (by rw [eval_get q1]; exact yl_geq)) ?_
  intro B2 s2 f2 q2 k2
  refine wpListIn_nil ?_
  simp only [Exit.then]
  refine wpIn_cond (t := decide ((m : Int) - 1 ≥ 0)) (eval_get q2) ?_
  cases m with
  | zero =>
    rw [show decide (((0 : Nat) : Int) - 1 ≥ 0) = false from rfl]
    refine wpIn_exit ?_
    simp only [Exit.then, Exit.inBlock, if_true]
    refine bodyPost_end (results_none hres _ _ _) (by rw [f2, f1, ad]) ?_
    exact ⟨⟨_, rfl⟩, hj⟩
  | succ m =>
    rw [show decide (((m + 1 : Nat) : Int) - 1 ≥ 0) = true from by simp]
    refine wpIn_skip ?_
    simp only [Exit.then]
    have hx : xs[m]? = some xs[m] := List.getElem?_eq_getElem (by omega)
    have hr0 := hrd _ _ hj
    have b0 : B2.tmps[0]? = some (.func (.yield l) #[] #[]) := ((k2 0 (by decide)).trans (k1 0 (by decide))).trans a0
    have b1' : B2.tmps[1]? = some (.pointer (some ⟨b, 0, none⟩)) := ((k2 1 (by decide)).trans (k1 1 (by decide))).trans a1'
    have b3 : B2.tmps[3]? = some (.int .i64 (m : Int)) := by
      have := ((k2 3 (by decide)).trans (k1 3 (by decide))).trans a3
      rw [this]; simp
    obtain ⟨sv, hl1, hr1⟩ := yl_load (P := P) hE (hS1 _ _ hj) hts htc (hbox _ _ hj)
    obtain ⟨pv, hl2, hr2⟩ := yl_index (P := P) hE (hS1 _ _ hj) hts hel hte hec hr1 hx
    obtain ⟨ev, hl3, hr3⟩ := yl_load (P := P) hE (hS1 _ _ hj) hte hec hr2
    refine wpIn_seq (wpIn_block (wpIn_seq (wpIn_region_list ?_)))
    rw [e3]
    refine step_put C1 (fun _ => by simp) s2 rfl (ex_move C1) ?_
    intro D1' s3 f3 q3 k3
    rw [eval_get b0] at q3
    refine step_put C2 (fun _ => by simp) s3 rfl (ex_move C2) ?_
    intro D2' s4 f4 q4 k4
    rw [eval_get ((k3 3 (by decide)).trans b3)] at q4
    refine step_put C3 (fun _ => by simp) s4 rfl (ex_load C3 (v := sv) (by rw [eval_get ((k4 1 (by decide)).trans ((k3 1 (by decide)).trans b1'))]; exact hl1)) ?_
    intro D3' s5 f5 q5 k5
    refine step_put C4 (fun _ => by simp) s5 rfl (ex_move C4) ?_
    intro D4' s6 f6 q6 k6
    rw [eval_get ((k5 3 (by decide)).trans ((k4 3 (by decide)).trans ((k3 3 (by decide)).trans b3)))] at q6
    refine step_put C5 (fun _ => by simp) s6 rfl (ex_index C5 (v := pv) (by rw [eval_get ((k6 13 (by decide)).trans q5), eval_get q6]; exact hl2)) ?_
    intro D5' s7 f7 q7 k7
    refine step_put C6 (fun _ => by simp) s7 rfl (ex_load C6 (v := ev) (by rw [eval_get q7]; exact hl3)) ?_
    intro D6' s8 f8 q8 k8
    have c11 : D6'.tmps[11]? = some (.func (.yield l) #[] #[]) := (k8 11 (by decide)).trans ((k7 11 (by decide)).trans ((k6 11 (by decide)).trans ((k5 11 (by decide)).trans ((k4 11 (by decide)).trans q3))))
    have c12 : D6'.tmps[12]? = some (.int .i64 (m : Int)) := (k8 12 (by decide)).trans ((k7 12 (by decide)).trans ((k6 12 (by decide)).trans ((k5 12 (by decide)).trans q4)))
    have c16 : D6'.tmps[16]? = some ev := q8
    obtain ⟨fy, ty', asg, bd, hy, hR⟩ := hY m w ev xs[m] hx hr3 hj (n - 1)
    refine wpListIn_plain C7.2.2 fun K hK => ?_
    unfold Oper.wpIn
    refine ⟨fun _ _ => trivial, ?_⟩
    rw [Oper.semAt_plain Fence.wide D6'.eval c7 (by rw [C7.2.1]; intro c hc; cases hc), ex_call C7 (eval_get c11) (by simpa [eval_get c12, eval_get c16] using hy), Oper.uponIn_round]
    refine ⟨fun hh => by simp [Fence.wide] at hh, hR.mono ?_⟩
    rintro e' w' ⟨rfl, hj'⟩
    simp only [C7.1]
    refine hK _ _ ?_
    have s9 : (D6'.put (some 17) (.bool true)).tmps.size = 19 := put_size.trans s8
    have k9 : ∀ i, i ≠ 17 → (D6'.put (some 17) (.bool true)).tmps[i]? = D6'.tmps[i]? := fun i hi => by rw [put_get (by rw [s8]; decide), if_neg hi]
    have q9 : (D6'.put (some 17) (.bool true)).tmps[17]? = some (.bool true) := by rw [put_get (by rw [s8]; decide), if_pos rfl]
    have f9 : (D6'.put (some 17) (.bool true)).defers = D6'.defers := rfl
    generalize D6'.put (some 17) (.bool true) = D7' at s9 k9 q9 f9
    refine step_put C8 (fun _ => by simp) s9 rfl (ex_not C8 (eval_get q9)) ?_
    intro D8' s10 f10 q10 k10
    refine wpListIn_nil ?_
    simp only [Exit.then]
    refine wpIn_cond_false (eval_get q10) (wpIn_skip ?_)
    simp only [Exit.inBlock, Exit.then]
    -- on to the next
    have n0 : D8'.tmps[0]? = some (.func (.yield l) #[] #[]) := (k10 0 (by decide)).trans ((k9 0 (by decide)).trans ((k8 0 (by decide)).trans ((k7 0 (by decide)).trans ((k6 0 (by decide)).trans ((k5 0 (by decide)).trans ((k4 0 (by decide)).trans ((k3 0 (by decide)).trans b0)))))))
    have n1 : D8'.tmps[1]? = some (.pointer (some ⟨b, 0, none⟩)) := (k10 1 (by decide)).trans ((k9 1 (by decide)).trans ((k8 1 (by decide)).trans ((k7 1 (by decide)).trans ((k6 1 (by decide)).trans ((k5 1 (by decide)).trans ((k4 1 (by decide)).trans ((k3 1 (by decide)).trans b1')))))))
    have n3 : D8'.tmps[3]? = some (.int .i64 (m : Int)) := (k10 3 (by decide)).trans ((k9 3 (by decide)).trans ((k8 3 (by decide)).trans ((k7 3 (by decide)).trans ((k6 3 (by decide)).trans ((k5 3 (by decide)).trans ((k4 3 (by decide)).trans ((k3 3 (by decide)).trans b3)))))))
    refine wpIn_region_list ?_
    rw [e2]
    refine step_put D1 (fun _ => by simp) s10 rfl (ex_move D1) ?_
    intro G1 t1 u1 r1 o1
    rw [eval_get n3] at r1
    refine step_put D2 (fun _ => by simp) t1 rfl (ex_bin D2 (by rw [eval_get r1]; exact yl_sub)) ?_
    intro G2 t2 u2 r2 o2
    refine step_put D3 (fun _ => by simp) t2 rfl (ex_assign D3) ?_
    intro G3 t3 u3 r3 o3
    rw [eval_get r2] at r3
    refine wpListIn_nil ?_
    simp only [Exit.then]
    have hw2 : IntKind.wrap .i64 ((m : Int) - 1) = (m : Int) - 1 := wrap_in (by omega) (by omega)
    rw [hw2] at r3
    exact ⟨m, Nat.lt_succ_self m, hj', by omega, by rw [u3, u2, u1, f10, f9, f8, f7, f6, f5, f4, f3, f2, f1, ad], t3, (o3 0 (by decide)).trans ((o2 0 (by decide)).trans ((o1 0 (by decide)).trans n0)), (o3 1 (by decide)).trans ((o2 1 (by decide)).trans ((o1 1 (by decide)).trans n1)), r3⟩

end Go.Ev

set_option linter.unusedSimpArgs false
set_option linter.unusedVariables false
namespace Go.Ev
open Go

/-! ### slices.Sorted of maps.Keys -/
/-- The keys, sorted. -/
def keysOf (tv : Tc) (es : List (Bytes × tv.den)) : List Bytes := match es with
  | [] => []
  | [e] => [e.1]
  | l => sortS (l.map fun e => e.1)

theorem keysOf_eq (tv : Tc) (es : List (Bytes × tv.den)) : keysOf tv es = sortS (es.map fun e => e.1) := by
  unfold keysOf
  split
  · simp [sortS]
  · simp [sortS]
  · rfl

def keysOkB (gs : List Nat) (g : Nat) (tv : Tc) (es : List (Bytes × tv.den)) : Bool := mem g gs && Nat.ble (List.length es) 1000000 && List.all es fun e => Nat.ble (List.length e.1) 1000000

def keysS (gs : List Nat) : Spec := ⟨[false], true, fun _ => true, fun pk => match pk with
  | ⟨[.clos g [.ptr 0 0]], [(0, .box [.mp 1]), (1, .map .str tv es)]⟩ => cond (keysOkB gs g tv es) (some ⟨[.dat (.slice .str) (keysOf tv es)], [(0, .box [.mp 1]), (1, .map .str tv es)]⟩) none
  | _ => none⟩

/-- What the shelf says of slices.Sorted at the iterator of maps.Keys. -/
def SortedKeys (P : Program) (k : TypeId) (f g : Nat) : Prop :=
  ∀ (Bm b nn : Nat) (D0 : DataW Unit) (R : Value → Option (DataW Unit × List MemPlace)) (w : World), Bm < w.heap.size → w.cell? ⟨Bm, 0, none⟩ = some (.map (some b)) → w.ownsMap P k R b nn D0 → Go.Maps.size D0 ≤ maxLen → Go.Maps.size D0 * 16 ≤ 140737488355328 →
    CallsIn Fence.wide 5 P f #[.func (.func g) #[] #[.pointer (some ⟨Bm, 0, none⟩)]] w fun e w' => ∃ (v : Value) (ss : List (List UInt8)), e = .returned v ∧ ss.Perm (strKeys D0) ∧
      w'.ownsRow w.heap.size k 1 v ss.length ((ss.mergeSort (fun x y => decide (x ≤ y))).map Proofs.encStr) ∧ (v = .slice none 0 0 ↔ ss = []) ∧ RowKit.Below w.heap.size w w'

theorem relE_keys {S : Nat → Prop} {h : Array Obj} {tv : Tc} : ∀ (es : List (Bytes × tv.den)) (ents : List MapEntry), RelE S h .str tv es ents → ents.map (·.key) = es.map fun e => Proofs.encStr e.1
  | [], ents, hr => by cases hr; rfl
  | x :: l, ents, hr => by
    obtain ⟨e, es', rfl, h1, h2, h3⟩ := hr
    have h1' : [e.key] = [Value.string ⟨x.1.toArray⟩] := h1
    simp only [List.map_cons, List.cons.injEq]
    exact ⟨List.singleton_inj.1 h1', relE_keys l es' h3⟩

/-- How the values of the map read: as nothing. -/
def rNil : Value → Option (DataW Unit × List MemPlace) := fun _ => some (.nil, [])

theorem owns_keys {P : Program} {k : TypeId} (hk : P.underlying k = some .string) {w : World} {b clock : Nat} {ents : Array MapEntry} (hb : w.heap[b]? = some (.map ents clock)) (hst : Steady ents clock) {ks : List Bytes} (hks : ents.toList.map (·.key) = ks.map Proofs.encStr)
    (hn : ks.length ≤ 1000000) (hl : ∀ x ∈ ks, x.length ≤ 1000000) : ∃ D0 : DataW Unit, w.ownsMap P k rNil b ents.size D0 ∧ Go.Maps.size D0 = ks.length ∧ (strKeys D0).Perm ks := by
  have hkey : ∀ x : Bytes, x.length ≤ 1000000 → keyOf P k (Proofs.encStr x) = some (.string x) := by
    intro x hx
    have h1 : (⟨x.toArray⟩ : ByteArray).size ≤ maxLen := by
      show x.toArray.size ≤ 2 ^ 63 - 1
      simp; omega
    simp [keyOf, hk, mapKey, h1]
  have hrg : ∀ (l : List MapEntry) (ks : List Bytes), l.map (·.key) = ks.map Proofs.encStr → (∀ x ∈ ks, x.length ≤ 1000000) → l.map (WideElems.rg P k rNil) = ks.map fun x => (Lit.string x, DataW.nil) := by
    intro l
    induction l with
    | nil => intro ks h _; cases ks with | nil => rfl | cons _ _ => cases h
    | cons e l ih =>
      intro ks h hb
      cases ks with
      | nil => cases h
      | cons x ks =>
        simp only [List.map_cons, List.cons.injEq] at h ⊢
        refine ⟨?_, ih ks h.2 fun y hy => hb y (List.mem_cons_of_mem _ hy)⟩
        have := hkey x (hb x List.mem_cons_self)
        simp [WideElems.rg, WideElems.rd, rNil, h.1, this]
  have hlen : ents.size = ks.length := by
    have := congrArg List.length hks
    simpa using this
  have hmem : ∀ x ∈ ents.toList, ∃ y, y.length ≤ 1000000 ∧ x.key = Proofs.encStr y := by
    intro x hx
    have : x.key ∈ ks.map Proofs.encStr := hks ▸ List.mem_map_of_mem hx
    obtain ⟨y, hy, e⟩ := List.mem_map.1 this
    exact ⟨y, hl y hy, e.symm⟩
  refine ⟨_, ⟨ents, clock, hb, ⟨by rw [hlen]; show ks.length ≤ 2 ^ 63 - 1; omega, hst, fun x hx => ?_⟩, Nat.le_refl _, rfl⟩, ?_, ?_⟩
  · obtain ⟨y, hy, e⟩ := hmem x hx
    exact ⟨(.string y, .nil), by simp [WideElems.rd, rNil, e, hkey y hy]⟩
  · rw [hrg _ _ hks hl]
    show (List.foldr DataW.insert [] _).length = _
    rw [(WideShapes.sorted_perm _).length_eq, List.length_map]
  · rw [hrg _ _ hks hl]
    show (List.map (fun p => strOf p.1) (List.foldr DataW.insert [] _)).Perm ks
    refine ((WideShapes.sorted_perm _).map _).trans ?_
    rw [List.map_map]
    simp [Function.comp_def, strOf]

/-- A block of nobody's, that nobody writes any more. -/
theorem ctx_newS {en : Ent} {rg : Nat → Reg} {loc : Nat → Loc} {S : Nat → Prop} {h : Array Obj} (hc : Ctx en rg loc S h) {b0 : Nat} (h1 : en.h.size ≤ b0) (h2 : b0 < h.size) (h3 : ∀ k, owns (loc k) (rg k) → (loc k).blk ≠ b0) (h4 : ∀ k, (rg k).aux = false) :
    Ctx en rg loc (fun b => S b ∨ b = b0) h ∧ (view rg loc S h).le (view rg loc (fun b => S b ∨ b = b0) h) := by
  have hle : (view rg loc S h).le (view rg loc (fun b => S b ∨ b = b0) h) := view_leS fun b hb => .inl hb
  refine ⟨⟨⟨fun k => RelR_mono hle (loc k) (fun _ => rfl) (fun ha => by rw [h4 k] at ha; cases ha) (hc.core.reg k), hc.core.inj, fun k hk hs => ?_, fun b hb => ?_⟩,
    ⟨hc.keep.size, hc.keep.same, fun b hb => .inl (hc.keep.sub b hb), fun b hb => ?_, hc.keep.mine, hc.keep.apart, hc.keep.bnd, hc.keep.auxs⟩⟩, hle⟩
  · rcases hs with hs | hs
    · exact hc.core.nS k hk hs
    · exact h3 k hk hs
  · rcases hb with hb | rfl
    · exact hc.core.bS b hb
    · exact h2
  · rcases hb with hb | rfl
    · exact hc.keep.src b hb
    · exact .inr (.inr h1)

theorem sortedKeys_sound {P : Program} {G : (Nat → Prop) → Array Obj → Prop} {k : TypeId} (hk : P.underlying k = some .string) {f : FuncId} {gs : List Nat} (h : ∀ g, mem g gs = true → SortedKeys P k f g) : Sound P G f (keysS gs) := by
  intro pk out hok hout vals w loc S hcore hG hrel
  simp only [keysS] at hout
  split at hout
  case h_2 => cases hout
  rename_i g tv es
  cases hkb : keysOkB gs g tv es with
  | false => rw [hkb] at hout; cases hout
  | true =>
  rw [hkb] at hout
  simp only [cond_true, Option.some.injEq] at hout
  subst hout
  simp only [keysOkB, Bool.and_eq_true] at hkb
  obtain ⟨⟨hg, hn⟩, hl⟩ := hkb
  have hn' := Nat.le_of_ble_eq_true hn
  obtain ⟨u, us, rfl, hu, hus⟩ := hrel
  cases hus
  obtain ⟨vs, rfl, hvs⟩ := hu
  obtain ⟨pv, us', rfl, hpv, hus'⟩ := hvs
  cases hus'
  have hp : pv = .pointer (some ⟨(loc 0).blk, 0, none⟩) := hpv
  subst hp
  have h0 := hcore.reg 0
  obtain ⟨cc, et, hb0, hcs, _⟩ := h0
  obtain ⟨mv, us'', e0, hmv, hus''⟩ := hcs
  cases hus''
  have hm : mv = .map (some (loc 1).blk) := hmv
  subst hm
  obtain ⟨ents, clock, hb1, hre, hst⟩ := hcore.reg 1
  have hb0' : w.heap[(loc 0).blk]? = some (.cells cc et (0, 0)) := hb0
  have hcc : cc = #[.map (some (loc 1).blk)] := Array.toList_inj.1 (by simpa using e0)
  subst hcc
  have hks := relE_keys es _ hre
  obtain ⟨D0, hown, hsz, hperm⟩ := owns_keys hk hb1 hst (ks := es.map fun e => e.1) (by rw [hks]; simp [Function.comp_def]) (by simpa using hn') (by
    intro x hx
    obtain ⟨e, he, rfl⟩ := List.mem_map.1 hx
    exact Nat.le_of_ble_eq_true (List.all_eq_true.1 hl e he))
  rw [List.length_map] at hsz
  have hlt0 : (loc 0).blk < w.heap.size := (Array.getElem?_eq_some_iff.1 hb0').1
  have hcell : w.cell? ⟨(loc 0).blk, 0, none⟩ = some (.map (some (loc 1).blk)) := by
    rw [cell_at, cell_blk hb0']; rfl
  refine (callsIn_wide.1 (h g hg (loc 0).blk (loc 1).blk _ D0 rNil w hlt0 hcell hown (by rw [hsz]; show es.length ≤ 2 ^ 63 - 1; omega) (by rw [hsz]; omega))).mono ?_
  rintro e w' ⟨v, ss, rfl, hp2, hrow, hnil, hbel⟩
  have hsort : ss.mergeSort (fun x y => decide (x ≤ y)) = keysOf tv es := by
    rw [keysOf_eq]
    exact mergeSort_of_perm (hp2.trans hperm)
  rw [hsort] at hrow
  have hold : ∀ b, b < w.heap.size → w'.heap[b]? = w.heap[b]? := fun b hb => hbel.block b hb
  have hlss : ss.length = (keysOf tv es).length := by
    have := congrArg List.length hsort
    rw [List.length_mergeSort] at this; exact this
  have hcx : Ctx (entOf ⟨[.clos g [.ptr 0 0]], [(0, .box [.mp 1]), (1, .map .str tv es)]⟩ loc S w.heap) (Fr.reg ⟨[.clos g [.ptr 0 0]], [(0, .box [.mp 1]), (1, .map .str tv es)]⟩) loc S w.heap :=
    ⟨hcore, ⟨Nat.le_refl _, fun _ _ _ => rfl, fun _ h => h, fun _ h => .inl h, fun k hk => .inl ⟨k, hk, rfl⟩, fun b hb ⟨k, hk, e⟩ => hcore.nS k hk (e ▸ hb), hcore.bS, fun k hk => by
      match k with
      | 0 => cases hk
      | 1 => cases hk
      | k + 2 => cases hk⟩⟩
  obtain ⟨c1, c2⟩ := ctx_grow hcx hbel.size hold
  have hsm : Sm w w' := ⟨hbel.os, hbel.output⟩
  rcases hrow with ⟨hl1, ⟨rfl, hz⟩ | ⟨gb, cap, cur, rfl, hge, hgb, hnc, _, hcs, htk⟩⟩
  · have hk0 : keysOf tv es = [] := by
      rw [← List.length_eq_zero_iff, ← hlss, hz]
    refine ⟨_, rfl, hsm, loc, S, c1, c2, ?_⟩
    show RelVal S w'.heap (.slice .str) (keysOf tv es) (.slice none 0 0)
    rw [hk0]
    exact ⟨none, 0, rfl, Nat.le_refl _, fun i x hx => by simp at hx⟩
  · obtain ⟨d1, d2⟩ := ctx_newS c1 (b0 := gb) hge (Array.getElem?_eq_some_iff.1 hgb).1 (fun k hk e => by have := own_lt hcore hk; omega) (fun k => by
      match k with
      | 0 => rfl
      | 1 => rfl
      | k + 2 => rfl)
    refine ⟨_, rfl, hsm, loc, _, d1, Vw.le_trans c2 d2, ?_⟩
    rw [hlss]
    refine ⟨some ⟨gb, 0, none⟩, cap, rfl, by rw [← hlss]; exact hnc, fun i x hx => ⟨⟨gb, 0, none⟩, rfl, rfl, .inr rfl, [Proofs.encStr x], rfl, fun j u hu => ?_⟩⟩
    have hj : j = 0 := by
      have := (List.getElem?_eq_some_iff.1 hu).1
      simpa using this
    subst hj
    simp at hu; subst hu
    show cellAt w'.heap gb (0 + i * 1 + 0) = _
    rw [cell_blk hgb]
    have hi : i < (keysOf tv es).length := (List.getElem?_eq_some_iff.1 hx).1
    have h5 : ((keysOf tv es).map Proofs.encStr)[i]? = some (Proofs.encStr x) := by rw [List.getElem?_map, hx]; rfl
    rw [← htk, List.getElem?_take, if_pos (by rw [hlss]; omega)] at h5
    simpa using h5

end Go.Ev
