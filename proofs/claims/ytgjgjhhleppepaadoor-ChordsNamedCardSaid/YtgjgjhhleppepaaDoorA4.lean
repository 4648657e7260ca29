import Derived.Test.YtgjgjhhleppepaaDoorA3
import Derived.Shelf.Small.Strs
import Derived.Shelf.Strings.Search1
import Derived.Shelf.Strings.SlTrimAscii
import Derived.Shelf.Strconv.Itoa3
import Derived.Shelf.Strconv.Atoi
import Derived.Test.YtgjgjhhleppepaaDoorProg
import Derived.WalkKit
import Derived.ProofKit
import Derived.OpenShut
import Derived.ChangeOld
import Derived.Carry
import Derived.SizedLaws
set_option linter.unusedVariables false
set_option linter.unusedSimpArgs false
namespace Go.Ev.P
open Go Go.Ev Go.Proofs
def QN (L : List Int) (a b : Int) (f : Fr) : Prop := ∃ (a' : Int) (l : List Int), f = ⟨[.dat (.slice tI) l], [(0, .box [.dat (.slice tI) L, .dat tI a'])]⟩ ∧ a ≤ a' ∧ a' ≤ b ∧ l.length ≤ 5

theorem QN_mono {L : List Int} {a b c d : Int} (h1 : c ≤ a) (h2 : b ≤ d) {o : Option Fr} (h : Ends (QN L a b) o) : Ends (QN L c d) o := by
  refine ends_mono h ?_
  rintro f ⟨a', l, e, h3, h4, h5⟩
  exact ⟨a', l, e, by omega, by omega, h5⟩

theorem nt_tail (L ys : List Int) (b : Int) (h0 : 0 ≤ b) (hb : b + 12 ≤ 1099511627776) (hl : ys.length ≤ 5) : Ends (QN L b (b + 12))
    (cond (decide (((List.length ys : Nat) : Int) > (0 : Int))) (cond (atOk 1 b) (cond (next L b (10 : Int) == 0) (cond (atOk 1 (nextAt b)) (cond (atOk 8 (nextAt (nextAt b))) (cond (decide ((0 : Int) ≤ (next L (nextAt b) ((List.length ys : Nat) : Int)))) (cond (decide ((next L (nextAt b) ((List.length ys : Nat) : Int)) < ((List.length ys : Nat) : Int))) (cond (decide ((Int.toNat (next L (nextAt b) ((List.length ys : Nat) : Int))) < List.length ys)) (some (α := Fr) ⟨[.dat (.slice tI) (List.set ys (Int.toNat (next L (nextAt b) ((List.length ys : Nat) : Int))) ((oddS L (nextAt (nextAt b)) (0 : Int) (127 : Int)).2))], [(0, .box [.dat (.slice tI) L, .dat tI ((oddS L (nextAt (nextAt b)) (0 : Int) (127 : Int)).1)])]⟩) none) none) none) none) none) (some (α := Fr) ⟨[.dat (.slice tI) ys], [(0, .box [.dat (.slice tI) L, .dat tI (nextAt b)])]⟩)) none) (some (α := Fr) ⟨[.dat (.slice tI) ys], [(0, .box [.dat (.slice tI) L, .dat tI b])]⟩)) := by
  have e1 := nextAt_s (a := b) h0 (by omega)
  have e2 := nextAt_s (a := b + 1) (by omega) (by omega)
  have e3 := oddAt L (a := b + 1 + 1) (lo := 0) (hi := 127) (by omega) (by omega) (by omega)
  rw [e1, e2]
  refine ends_cond (fun hp => ?_) (fun _ => ends_some ⟨_, _, rfl, by omega, by omega, hl⟩)
  have hp' : 0 < ys.length := by have : ((ys.length : Nat) : Int) > 0 := by simpa using hp
                                 omega
  refine ends_if (atOk_t h0 (by omega)) (ends_cond (fun _ => ?_) (fun _ => ends_some ⟨_, _, rfl, by omega, by omega, hl⟩))
  obtain ⟨k1, k2⟩ := next_range L (b + 1) (n := (ys.length : Int)) (by omega) (by omega)
  refine ends_if (atOk_t (by omega) (by omega)) (ends_if (atOk_t (by omega) (by omega)) (ends_if (dT k1) (ends_if (dT k2) (ends_if (dT (by omega)) ?_))))
  exact ends_some ⟨_, _, rfl, by rw [e3]; omega, by rw [e3]; omega, by rw [List.length_set]; exact hl⟩

theorem kindT_pos : ∀ k ∈ List.range 7, 2 < (kindT ((k : Int) + 1)).length := by decide +kernel
theorem right_root {r k t : Int} (h1 : 0 ≤ r) (h2 : r ≤ 11) (h3 : 1 ≤ k) (h4 : k ≤ 7) (h5 : 0 ≤ t) (h6 : t ≤ 2) : rightC (r, (k, t)) = true := by
  refine right_iff.2 ⟨h1, h2, h3, h4, h5, ?_⟩
  have := kindT_pos (k - 1).toNat (List.mem_range.2 (by omega))
  have e : (((k - 1).toNat : Nat) : Int) + 1 = k := by omega
  rw [e] at this
  show t < ((kindT k).length : Int)
  omega

def QC1 (L : List Int) (a b : Int) (f : Fr) : Prop := ∃ (a' : Int) (c : Chord), f = ⟨[.dat tChord c], [(0, .box [.dat (.slice tI) L, .dat tI a'])]⟩ ∧ a ≤ a' ∧ a' ≤ b
theorem aChord_spec (L : List Int) (at_ : Int) (h : atOk 30 at_ = true) : (at_ ≤ (aChord L at_).1 ∧ (aChord L at_).1 ≤ at_ + 10) ∧
    I9.run ⟨[.ptr 0 0], [(0, .box [.dat (.slice tI) L, .dat tI at_])]⟩ = some ⟨[.dat tChord (aChord L at_).2], [(0, .box [.dat (.slice tI) L, .dat tI (aChord L at_).1])]⟩ := by
  have h1 := atOk_iff.1 h
  have hE : Ends (QC1 L at_ (at_ + 10)) (I9.run ⟨[.ptr 0 0], [(0, .box [.dat (.slice tI) L, .dat tI at_])]⟩) := by
    rw [f9_run]
    simp (disch := omega) only [nextAt_s, oddAt, rangeAt_s]
    refine ends_if (atOk_t h1.1 (by omega)) (ends_cond (fun _ => ?_) (fun _ => ?_))
    · exact ends_if (atOk_t (by omega) (by omega)) (ends_if (atOk_t (by omega) (by omega)) (ends_if (atOk_t (by omega) (by omega)) (ends_some ⟨_, _, rfl, by omega, by omega⟩)))
    · exact ends_if (atOk_t (by omega) (by omega)) (ends_if (atOk_t (by omega) (by omega)) (ends_if (atOk_and (by omega) (by omega) rfl rfl) (ends_some ⟨_, _, rfl, by omega, by omega⟩)))
  obtain ⟨f, hf, a', p, rfl, h2, h3⟩ := hE
  exact Classical.epsilon_spec (p := fun p : Int × Chord => (at_ ≤ p.1 ∧ p.1 ≤ at_ + 10) ∧
    I9.run ⟨[.ptr 0 0], [(0, .box [.dat (.slice tI) L, .dat tI at_])]⟩ = some ⟨[.dat tChord p.2], [(0, .box [.dat (.slice tI) L, .dat tI p.1])]⟩)
    ⟨(a', p), ⟨h2, h3⟩, hf⟩
theorem r9 : R9 := fun L at_ h => (aChord_spec L at_ h).2

def QCs (L : List Int) (a b : Int) (n : Nat) (f : Fr) : Prop := ∃ (a' : Int) (l : List Chord), f = ⟨[.dat (.slice tChord) l], [(0, .box [.dat (.slice tI) L, .dat tI a'])]⟩ ∧ a ≤ a' ∧ a' ≤ b ∧ l.length ≤ n
theorem QCs_mono {L : List Int} {a b c d : Int} {n : Nat} (h1 : c ≤ a) (h2 : b ≤ d) {o : Option Fr} (h : Ends (QCs L a b n) o) : Ends (QCs L c d n) o := by
  refine ends_mono h ?_
  rintro f ⟨a', l, e, h3, h4, h5⟩
  exact ⟨a', l, e, by omega, by omega, h5⟩

end Go.Ev.P

/-
  DERIVED: THE SHELF's CONTRACTS AT THIS DUMP, IN PLAIN WORDS (tools/lay-plain.mjs out of 'GleePs.lean', which tools/lay-shelf.mjs wrote): THE SAME DECLARATIONS UNDER THE SAME NAMES: 'import', 'namespace', 'open', 'def', 'theorem' AND NOTHING ELSE: no command of the shelf's: FOR A HAND-IN. Each laying: the table of numbers ('.._ren') and one theorem, a field a fact of the dump's own or the kernel's comparison; each contract: ONE APPLICATION.
-/
namespace Go.Proofs
open Go.Shelf
def Tryd.lays217_ren : Go.Shelf.Ren := ⟨fun | 217 => 195 | 266 => 217 | n => n, fun | 9 => 9 | 5 => 5 | 3 => 3 | n => n, fun | n => n⟩
theorem Tryd.lays217 : Go.Proofs.Lays.n217 Tryd.prog Tryd.lays217_ren := {
  mixed := by kernel_rfl
  f217 := Tryd.func195.trans (congrArg some (by kernel_rfl))
  f266 := Tryd.func217.trans (congrArg some (by kernel_rfl))
  t3 := Tryd.underlying3
  a3 := Tryd.isAgg3
  z3 := Tryd.sizeOf3
  v3 := Tryd.zeroValue3
  t5 := Tryd.underlying5
  a5 := Tryd.isAgg5
  z5 := Tryd.sizeOf5
  v5 := Tryd.zeroValue5
  t9 := Tryd.underlying9
  a9 := Tryd.isAgg9
  z9 := Tryd.sizeOf9
  v9 := Tryd.zeroValue9 }
def Tryd.lays160_ren : Go.Shelf.Ren := ⟨fun | 160 => 144 | 232 => 167 | 231 => 166 | 227 => 168 | 234 => 170 | 233 => 169 | 236 => 172 | 235 => 171 | 228 => 200 | 271 => 203 | 151 => 202 | 197 => 201 | 120 => 221 | 152 => 220 | 260 => 219 | 137 => 176 | 119 => 228 | 224 => 197 | 225 => 196 | 217 => 195 | 266 => 217 | n => n, fun | 9 => 9 | 4 => 4 | 3 => 3 | 5 => 5 | 117 => 183 | 116 => 182 | 0 => 0 | 124 => 186 | 21 => 21 | 105 => 207 | 46 => 154 | 119 => 234 | 139 => 237 | 138 => 236 | n => n, fun | 3 => 4 | 4 => 5 | n => n⟩
theorem Tryd.lays160 : Go.Proofs.Lays.n160 Tryd.prog Tryd.lays160_ren := {
  mixed := by kernel_rfl
  f119 := Tryd.func228.trans (congrArg some (by kernel_rfl))
  f120 := Tryd.func221.trans (congrArg some (by kernel_rfl))
  f137 := Tryd.func176.trans (congrArg some (by kernel_rfl))
  f151 := Tryd.func202.trans (congrArg some (by kernel_rfl))
  f152 := Tryd.func220.trans (congrArg some (by kernel_rfl))
  f160 := Tryd.func144.trans (congrArg some (by kernel_rfl))
  f197 := Tryd.func201.trans (congrArg some (by kernel_rfl))
  f217 := Tryd.func195.trans (congrArg some (by kernel_rfl))
  f224 := Tryd.func197.trans (congrArg some (by kernel_rfl))
  f225 := Tryd.func196.trans (congrArg some (by kernel_rfl))
  f227 := Tryd.func168.trans (congrArg some (by kernel_rfl))
  f228 := Tryd.func200.trans (congrArg some (by kernel_rfl))
  f231 := Tryd.func166.trans (congrArg some (by kernel_rfl))
  f232 := Tryd.func167.trans (congrArg some (by kernel_rfl))
  f233 := Tryd.func169.trans (congrArg some (by kernel_rfl))
  f234 := Tryd.func170.trans (congrArg some (by kernel_rfl))
  f235 := Tryd.func171.trans (congrArg some (by kernel_rfl))
  f236 := Tryd.func172.trans (congrArg some (by kernel_rfl))
  f260 := Tryd.func219.trans (congrArg some (by kernel_rfl))
  f266 := Tryd.func217.trans (congrArg some (by kernel_rfl))
  f271 := Tryd.func203.trans (congrArg some (by kernel_rfl))
  t0 := Tryd.underlying0
  a0 := Tryd.isAgg0
  z0 := Tryd.sizeOf0
  v0 := Tryd.zeroValue0
  t3 := Tryd.underlying3
  a3 := Tryd.isAgg3
  z3 := Tryd.sizeOf3
  v3 := Tryd.zeroValue3
  t4 := Tryd.underlying4
  a4 := Tryd.isAgg4
  z4 := Tryd.sizeOf4
  v4 := Tryd.zeroValue4
  t5 := Tryd.underlying5
  a5 := Tryd.isAgg5
  z5 := Tryd.sizeOf5
  v5 := Tryd.zeroValue5
  t9 := Tryd.underlying9
  a9 := Tryd.isAgg9
  z9 := Tryd.sizeOf9
  v9 := Tryd.zeroValue9
  t21 := Tryd.underlying21
  a21 := Tryd.isAgg21
  z21 := Tryd.sizeOf21
  v21 := Tryd.zeroValue21
  t46 := Tryd.underlying154
  a46 := Tryd.isAgg154
  z46 := Tryd.sizeOf154
  v46 := Tryd.zeroValue154
  t105 := Tryd.underlying207
  a105 := Tryd.isAgg207
  z105 := Tryd.sizeOf207
  v105 := Tryd.zeroValue207
  t116 := Tryd.underlying182
  a116 := Tryd.isAgg182
  z116 := Tryd.sizeOf182
  t117 := Tryd.underlying183
  a117 := Tryd.isAgg183
  z117 := Tryd.sizeOf183
  v117 := Tryd.zeroValue183
  t119 := Tryd.underlying234
  a119 := Tryd.isAgg234
  z119 := Tryd.sizeOf234
  t124 := Tryd.underlying186
  a124 := Tryd.isAgg186
  z124 := Tryd.sizeOf186
  v124 := Tryd.zeroValue186
  t138 := Tryd.underlying236
  a138 := Tryd.isAgg236
  z138 := Tryd.sizeOf236
  v138 := Tryd.zeroValue236
  t139 := Tryd.underlying237
  a139 := Tryd.isAgg237
  z139 := Tryd.sizeOf237
  v139 := Tryd.zeroValue237
  g3 := by kernel_rfl
  g4 := by kernel_rfl }
def Tryd.lays171_ren : Go.Shelf.Ren := ⟨fun | 171 => 112 | 243 => 141 | 246 => 163 | 283 => 191 | 284 => 192 | 285 => 193 | 286 => 194 | 129 => 159 | 317 => 213 | 318 => 214 | 319 => 215 | 320 => 216 | 337 => 226 | 338 => 227 | n => n, fun | 3 => 3 | 9 => 9 | 2 => 2 | 4 => 4 | 171 => 201 | 0 => 0 | 53 => 176 | 37 => 203 | 5 => 5 | 173 => 204 | 212 => 222 | 51 => 174 | 20 => 20 | 213 => 223 | 46 => 154 | 232 => 245 | 233 => 246 | n => n, fun | 17 => 1 | 18 => 6 | 19 => 7 | n => n⟩
theorem Tryd.lays171 : Go.Proofs.LaysM.n171 Tryd.prog Tryd.lays171_ren := {
  mixed := by kernel_rfl
  f129 := Tryd.func159.trans (congrArg some (by kernel_rfl))
  f171 := Tryd.func112.trans (congrArg some (by kernel_rfl))
  f243 := Tryd.func141.trans (congrArg some (by kernel_rfl))
  f246 := Tryd.func163.trans (congrArg some (by kernel_rfl))
  f283 := Tryd.func191.trans (congrArg some (by kernel_rfl))
  f284 := Tryd.func192.trans (congrArg some (by kernel_rfl))
  f285 := Tryd.func193.trans (congrArg some (by kernel_rfl))
  f286 := Tryd.func194.trans (congrArg some (by kernel_rfl))
  f317 := Tryd.func213.trans (congrArg some (by kernel_rfl))
  f318 := Tryd.func214.trans (congrArg some (by kernel_rfl))
  f319 := Tryd.func215.trans (congrArg some (by kernel_rfl))
  f320 := Tryd.func216.trans (congrArg some (by kernel_rfl))
  f337 := Tryd.func226.trans (congrArg some (by kernel_rfl))
  f338 := Tryd.func227.trans (congrArg some (by kernel_rfl))
  t0 := Tryd.underlying0
  a0 := Tryd.isAgg0
  z0 := Tryd.sizeOf0
  v0 := Tryd.zeroValue0
  t2 := Tryd.underlying2
  a2 := Tryd.isAgg2
  z2 := Tryd.sizeOf2
  v2 := Tryd.zeroValue2
  t3 := Tryd.underlying3
  a3 := Tryd.isAgg3
  z3 := Tryd.sizeOf3
  v3 := Tryd.zeroValue3
  t4 := Tryd.underlying4
  a4 := Tryd.isAgg4
  z4 := Tryd.sizeOf4
  v4 := Tryd.zeroValue4
  t5 := Tryd.underlying5
  a5 := Tryd.isAgg5
  z5 := Tryd.sizeOf5
  v5 := Tryd.zeroValue5
  t9 := Tryd.underlying9
  a9 := Tryd.isAgg9
  z9 := Tryd.sizeOf9
  v9 := Tryd.zeroValue9
  t20 := Tryd.underlying20
  a20 := Tryd.isAgg20
  z20 := Tryd.sizeOf20
  v20 := Tryd.zeroValue20
  t37 := Tryd.underlying203
  a37 := Tryd.isAgg203
  z37 := Tryd.sizeOf203
  v37 := Tryd.zeroValue203
  t46 := Tryd.underlying154
  a46 := Tryd.isAgg154
  z46 := Tryd.sizeOf154
  v46 := Tryd.zeroValue154
  t51 := Tryd.underlying174
  a51 := Tryd.isAgg174
  z51 := Tryd.sizeOf174
  v51 := Tryd.zeroValue174
  t53 := Tryd.underlying176
  a53 := Tryd.isAgg176
  z53 := Tryd.sizeOf176
  v53 := Tryd.zeroValue176
  t171 := Tryd.underlying201
  a171 := Tryd.isAgg201
  z171 := Tryd.sizeOf201
  v171 := Tryd.zeroValue201
  t173 := Tryd.underlying204
  a173 := Tryd.isAgg204
  z173 := Tryd.sizeOf204
  v173 := Tryd.zeroValue204
  t212 := Tryd.underlying222
  a212 := Tryd.isAgg222
  z212 := Tryd.sizeOf222
  v212 := Tryd.zeroValue222
  t213 := Tryd.underlying223
  a213 := Tryd.isAgg223
  z213 := Tryd.sizeOf223
  t232 := Tryd.underlying245
  a232 := Tryd.isAgg245
  z232 := Tryd.sizeOf245
  v232 := Tryd.zeroValue245
  t233 := Tryd.underlying246
  a233 := Tryd.isAgg246
  z233 := Tryd.sizeOf246
  v233 := Tryd.zeroValue246
  g17 := by kernel_rfl
  g18 := by kernel_rfl
  g19 := by kernel_rfl
  i0 := by kernel_rfl
  i2 := by kernel_rfl
  i3 := by kernel_rfl
  i4 := by kernel_rfl
  i5 := by kernel_rfl
  i9 := by kernel_rfl
  i20 := by kernel_rfl
  i37 := by kernel_rfl
  i46 := by kernel_rfl
  i51 := by kernel_rfl
  i53 := by kernel_rfl
  i171 := by kernel_rfl
  i173 := by kernel_rfl
  i212 := by kernel_rfl
  i232 := by kernel_rfl
  i233 := by kernel_rfl
  m17 := by kernel_rfl
  m18 := by kernel_rfl
  m19 := by kernel_rfl }
def Tryd.lays172_ren : Go.Shelf.Ren := ⟨fun | 172 => 145 | 244 => 173 | 245 => 174 | 247 => 204 | 279 => 205 | 280 => 206 | 281 => 207 | 282 => 208 | 287 => 222 | 316 => 223 | 171 => 112 | 205 => 224 | 321 => 229 | 322 => 230 | 243 => 141 | 246 => 163 | 283 => 191 | 284 => 192 | 285 => 193 | 286 => 194 | 129 => 159 | 317 => 213 | 318 => 214 | 319 => 215 | 320 => 216 | 337 => 226 | 338 => 227 | n => n, fun | 9 => 9 | 3 => 3 | 75 => 161 | 76 => 162 | 4 => 4 | 5 => 5 | 167 => 210 | 37 => 203 | 0 => 0 | 85 => 211 | 2 => 2 | 168 => 213 | 53 => 176 | 175 => 227 | 46 => 154 | 210 => 231 | 127 => 241 | 145 => 244 | 143 => 242 | 21 => 21 | 171 => 201 | 173 => 204 | 212 => 222 | 51 => 174 | 20 => 20 | 213 => 223 | 232 => 245 | 233 => 246 | 80 => 89 | n => n, fun | 15 => 2 | 16 => 3 | 17 => 1 | 18 => 6 | 19 => 7 | n => n⟩
theorem Tryd.lays172 : Go.Proofs.Lays.n172 Tryd.prog Tryd.lays172_ren := {
  mixed := by kernel_rfl
  f129 := Tryd.func159.trans (congrArg some (by kernel_rfl))
  f171 := Tryd.func112.trans (congrArg some (by kernel_rfl))
  f172 := Tryd.func145.trans (congrArg some (by kernel_rfl))
  f205 := Tryd.func224.trans (congrArg some (by kernel_rfl))
  f243 := Tryd.func141.trans (congrArg some (by kernel_rfl))
  f244 := Tryd.func173.trans (congrArg some (by kernel_rfl))
  f245 := Tryd.func174.trans (congrArg some (by kernel_rfl))
  f246 := Tryd.func163.trans (congrArg some (by kernel_rfl))
  f247 := Tryd.func204.trans (congrArg some (by kernel_rfl))
  f279 := Tryd.func205.trans (congrArg some (by kernel_rfl))
  f280 := Tryd.func206.trans (congrArg some (by kernel_rfl))
  f281 := Tryd.func207.trans (congrArg some (by kernel_rfl))
  f282 := Tryd.func208.trans (congrArg some (by kernel_rfl))
  f283 := Tryd.func191.trans (congrArg some (by kernel_rfl))
  f284 := Tryd.func192.trans (congrArg some (by kernel_rfl))
  f285 := Tryd.func193.trans (congrArg some (by kernel_rfl))
  f286 := Tryd.func194.trans (congrArg some (by kernel_rfl))
  f287 := Tryd.func222.trans (congrArg some (by kernel_rfl))
  f316 := Tryd.func223.trans (congrArg some (by kernel_rfl))
  f317 := Tryd.func213.trans (congrArg some (by kernel_rfl))
  f318 := Tryd.func214.trans (congrArg some (by kernel_rfl))
  f319 := Tryd.func215.trans (congrArg some (by kernel_rfl))
  f320 := Tryd.func216.trans (congrArg some (by kernel_rfl))
  f321 := Tryd.func229.trans (congrArg some (by kernel_rfl))
  f322 := Tryd.func230.trans (congrArg some (by kernel_rfl))
  f337 := Tryd.func226.trans (congrArg some (by kernel_rfl))
  f338 := Tryd.func227.trans (congrArg some (by kernel_rfl))
  t0 := Tryd.underlying0
  a0 := Tryd.isAgg0
  z0 := Tryd.sizeOf0
  v0 := Tryd.zeroValue0
  t2 := Tryd.underlying2
  a2 := Tryd.isAgg2
  z2 := Tryd.sizeOf2
  v2 := Tryd.zeroValue2
  t3 := Tryd.underlying3
  a3 := Tryd.isAgg3
  z3 := Tryd.sizeOf3
  v3 := Tryd.zeroValue3
  t4 := Tryd.underlying4
  a4 := Tryd.isAgg4
  z4 := Tryd.sizeOf4
  v4 := Tryd.zeroValue4
  t5 := Tryd.underlying5
  a5 := Tryd.isAgg5
  z5 := Tryd.sizeOf5
  v5 := Tryd.zeroValue5
  t9 := Tryd.underlying9
  a9 := Tryd.isAgg9
  z9 := Tryd.sizeOf9
  v9 := Tryd.zeroValue9
  t20 := Tryd.underlying20
  a20 := Tryd.isAgg20
  z20 := Tryd.sizeOf20
  v20 := Tryd.zeroValue20
  t21 := Tryd.underlying21
  a21 := Tryd.isAgg21
  z21 := Tryd.sizeOf21
  v21 := Tryd.zeroValue21
  t37 := Tryd.underlying203
  a37 := Tryd.isAgg203
  z37 := Tryd.sizeOf203
  v37 := Tryd.zeroValue203
  t46 := Tryd.underlying154
  a46 := Tryd.isAgg154
  z46 := Tryd.sizeOf154
  v46 := Tryd.zeroValue154
  t51 := Tryd.underlying174
  a51 := Tryd.isAgg174
  z51 := Tryd.sizeOf174
  v51 := Tryd.zeroValue174
  t53 := Tryd.underlying176
  a53 := Tryd.isAgg176
  z53 := Tryd.sizeOf176
  v53 := Tryd.zeroValue176
  t75 := Tryd.underlying161
  a75 := Tryd.isAgg161
  z75 := Tryd.sizeOf161
  v75 := Tryd.zeroValue161
  t76 := Tryd.underlying162
  a76 := Tryd.isAgg162
  z76 := Tryd.sizeOf162
  v76 := Tryd.zeroValue162
  t85 := Tryd.underlying211
  a85 := Tryd.isAgg211
  z85 := Tryd.sizeOf211
  v85 := Tryd.zeroValue211
  t127 := Tryd.underlying241
  a127 := Tryd.isAgg241
  z127 := Tryd.sizeOf241
  v127 := Tryd.zeroValue241
  t143 := Tryd.underlying242
  a143 := Tryd.isAgg242
  z143 := Tryd.sizeOf242
  v143 := Tryd.zeroValue242
  t145 := Tryd.underlying244
  a145 := Tryd.isAgg244
  z145 := Tryd.sizeOf244
  v145 := Tryd.zeroValue244
  t167 := Tryd.underlying210
  a167 := Tryd.isAgg210
  z167 := Tryd.sizeOf210
  v167 := Tryd.zeroValue210
  t168 := Tryd.underlying213
  a168 := Tryd.isAgg213
  z168 := Tryd.sizeOf213
  v168 := Tryd.zeroValue213
  t171 := Tryd.underlying201
  a171 := Tryd.isAgg201
  z171 := Tryd.sizeOf201
  v171 := Tryd.zeroValue201
  t173 := Tryd.underlying204
  a173 := Tryd.isAgg204
  z173 := Tryd.sizeOf204
  v173 := Tryd.zeroValue204
  t175 := Tryd.underlying227
  a175 := Tryd.isAgg227
  z175 := Tryd.sizeOf227
  v175 := Tryd.zeroValue227
  t210 := Tryd.underlying231
  a210 := Tryd.isAgg231
  z210 := Tryd.sizeOf231
  v210 := Tryd.zeroValue231
  t212 := Tryd.underlying222
  a212 := Tryd.isAgg222
  z212 := Tryd.sizeOf222
  v212 := Tryd.zeroValue222
  t213 := Tryd.underlying223
  a213 := Tryd.isAgg223
  z213 := Tryd.sizeOf223
  t232 := Tryd.underlying245
  a232 := Tryd.isAgg245
  z232 := Tryd.sizeOf245
  v232 := Tryd.zeroValue245
  t233 := Tryd.underlying246
  a233 := Tryd.isAgg246
  z233 := Tryd.sizeOf246
  v233 := Tryd.zeroValue246
  g15 := by kernel_rfl
  g16 := by kernel_rfl
  g17 := by kernel_rfl
  g18 := by kernel_rfl
  g19 := by kernel_rfl }
end Go.Proofs

set_option linter.unusedVariables false
set_option linter.unusedSimpArgs false
namespace Go.Ev.P
open Go Go.Ev Go.Proofs
theorem r195 : R195 := by
  refine ⟨pure_sound (P := Tryd.prog) (G := En0.gl) (ts := [.str, .int .u8]) (out := fun x => .dat tI (indexB x.1 x.2.1)) (fun _ => rfl) (fun _ => rfl) ?_, enters_of Tryd.func195 rfl rfl⟩
  rintro ⟨s, c, _⟩ _ w V vals hV _ ⟨u1, us, rfl, h1, u2, us', rfl, h2, rfl⟩
  cases h1
  cases h2
  refine (Any.stringslite_IndexByte Tryd.lays217 ⟨List.toArray s⟩ c w).mono ?_
  rintro e w' ⟨rfl, rfl⟩
  exact ⟨_, rfl, RowKit.Below.refl _ _, fun _ => rfl⟩
theorem r112 : R112 := ⟨itoa_sound Tryd.lays171, enters_of Tryd.func112 rfl rfl⟩
theorem r145 : R145 := ⟨atoi_sound Tryd.lays172, enters_of Tryd.func145 rfl rfl⟩
theorem r144 : R144 := by
  refine ⟨pure_sound (P := Tryd.prog) (G := En0.gl) (ts := [.str, .str]) (out := fun x => .dat .str (trimB x.1 x.2.1)) (fun _ => rfl) (fun _ => rfl) ?_, enters_of Tryd.func144 rfl rfl⟩
  rintro ⟨s, c, _⟩ hok w V vals hV _ ⟨u1, us, rfl, h1, u2, us', rfl, h2, rfl⟩
  cases h1
  cases h2
  have hok' : (decide (List.length s ≤ 1000000) && decide (List.length c ≤ 1000) && c.all fun b => decide (b.toNat < 128)) = true := hok
  simp only [Bool.and_eq_true, decide_eq_true_eq] at hok'
  obtain ⟨⟨h1, h2⟩, h3⟩ := hok'
  refine (Any.strings_Trim_laid Tryd.lays160 (by kernel_rfl) ⟨List.toArray s⟩ ⟨List.toArray c⟩ w (by show (List.toArray s).size ≤ _; simp; omega) (by show (List.toArray c).size < _; simp; omega) (ascii_of_all h3)).mono ?_
  rintro e w' ⟨rfl, hb⟩
  exact ⟨_, rfl, hb, fun _ => rfl⟩

theorem indexByte_mem (b : UInt8) : ∀ (l : Bytes), decide (Lib.indexByte l b < 0) = !l.contains b
  | [] => rfl
  | x :: l => by
    have ih := indexByte_mem b l
    have hg := Lib.indexByte_ge l b
    unfold Lib.indexByte
    by_cases h : x = b
    · subst h; simp
    · have h1 : (x == b) = false := beq_eq_false_iff_ne.2 h
      have h2 : (b == x) = false := beq_eq_false_iff_ne.2 (fun e => h e.symm)
      rw [h1]
      simp only [List.contains_cons, h2, Bool.false_or, Bool.false_eq_true, if_false]
      rw [← ih]
      by_cases h3 : Lib.indexByte l b = -1
      · rw [h3]; rfl
      · have h4 : (Lib.indexByte l b == -1) = false := beq_eq_false_iff_ne.2 h3
        rw [h4]
        simp only [Bool.false_eq_true, if_false]
        rw [dF (by omega), dF (by omega)]

theorem toU (b : UInt8) : (Int.toNat ((b.toNat : Nat) : Int)).toUInt8 = b := by
  show (b.toNat).toUInt8 = b
  exact UInt8.ofNat_toNat

theorem only_all (s cs : Bytes) : onlyB s cs = s.all fun b => cs.contains b := by
  unfold onlyB
  congr 1
  funext b
  unfold indexB
  rw [toU, indexByte_mem, Bool.not_not]

theorem dw_nil {α : Type} (p : α → Bool) : ∀ (l : List α), l.dropWhile p = [] ↔ ∀ x ∈ l, p x = true
  | [] => by simp
  | x :: l => by
    rw [List.dropWhile_cons]
    cases h : p x with
    | true => simp [h, dw_nil p l]
    | false => simp [h]

theorem trim_nil (s cs : Bytes) : (trimB s cs == []) = s.all fun b => cs.contains b := by
  unfold trimB Lib.trimS Lib.trimLeftS Lib.trimRightS
  rw [Bool.eq_iff_iff, beq_iff_eq, dw_nil, List.all_eq_true]
  constructor
  · intro h
    -- a byte beyond the set would stay
    have h' : ∀ x ∈ s.reverse.dropWhile (fun b => cs.contains b), cs.contains x = true := fun x hx => h x (by simpa using hx)
    have h2 : s.reverse.dropWhile (fun b => cs.contains b) = [] := by
      cases hd : s.reverse.dropWhile (fun b => cs.contains b) with
      | nil => rfl
      | cons x l =>
        have := List.head?_dropWhile_not (fun b => cs.contains b) s.reverse
        rw [hd] at this h'
        simp only [List.head?_cons] at this
        have h3 := h' x (List.mem_cons_self ..)
        simp only [h3] at this
        simp at this
    rw [dw_nil] at h2
    exact fun x hx => h2 x (by simpa using hx)
  · intro h x hx
    have := (List.dropWhile_sublist (fun b => cs.contains b) (l := s.reverse)).subset (by simpa using hx)
    exact h x (by simpa using this)

theorem go147 (xs cs : Bytes) (hb : xs.length ≤ 1000000) : ∀ (m i : Nat), i + m = xs.length → f147h0 xs cs xs.length i = some ⟨[.dat .bool (onlyB (xs.drop i) cs)], []⟩ := by
  intro m
  induction m with
  | zero => intro i hi; rw [f147h0_eq, dlt_not (by omega), dnil (by omega)]; rfl
  | succ m ih =>
    intro i hi
    have hlt : i < xs.length := by omega
    have e : t176_0 cs ((xs[i].toNat : Nat) : Int) = indexB cs ((xs[i].toNat : Nat) : Int) := rfl
    rw [f147h0_eq, dlt hlt, dle0, getN _ _ _ hlt, wsucc (by omega), ih (i + 1) (by omega), dcons hlt, e]
    simp only [cond_true, onlyB, List.all_cons]
    cases decide (indexB cs ((xs[i].toNat : Nat) : Int) < 0) <;> rfl

theorem r147 : R147 := by
  intro a0 a1 h
  simp only [decide_eq_true_eq] at h
  rw [f147_run]
  exact go147 a0 a1 h a0.length 0 (by omega)

theorem go114 (a : List Bytes) (x : Bytes) (ha : a.length ≤ 1000) : ∀ (m i : Nat), i + m = a.length → f114h0 a x a.length i = some ⟨[.dat tI (idxS x (a.drop i) i)], []⟩ := by
  intro m
  induction m with
  | zero => intro i hi; rw [f114h0_eq, condF (dlt_not (by omega)), dnil (xs := a) (i := i) (by omega)]; rfl
  | succ m ih =>
    intro i hi
    have hlt : i < a.length := by omega
    rw [f114h0_eq]
    rw [condT (dT (by first | omega | (simp only [List.length_append, List.length_cons, List.length_nil, List.length_set, List.length_take, List.length_drop, List.length_map]; omega) | (simp; omega)))]
    rw [condT (dT (by first | omega | (simp only [List.length_append, List.length_cons, List.length_nil, List.length_set, List.length_take, List.length_drop, List.length_map]; omega) | (simp; omega)))]
    rw [condT (dT (by first | omega | (simp only [List.length_append, List.length_cons, List.length_nil, List.length_set, List.length_take, List.length_drop, List.length_map]; omega) | (simp; omega)))]
    rw [getN _ _ _ hlt, dcons hlt, wsucc (by omega), ih (i + 1) (by omega)]
    simp only [idxS]
    cases x == a[i] <;> rfl
theorem r114 : R114 := by
  intro a0 a1 h
  rw [f114_run]
  exact go114 a0 a1 (by simpa using h) a0.length 0 (by omega)

theorem index_bounds (s : Bytes) (c : UInt8) : -1 ≤ indexB s ((c.toNat : Nat) : Int) ∧ (0 ≤ indexB s ((c.toNat : Nat) : Int) → indexB s ((c.toNat : Nat) : Int) < (s.length : Int)) := by
  unfold indexB
  rw [toU]
  induction s with
  | nil => exact ⟨show (-1 : Int) ≤ -1 by decide, fun h => absurd (show (0 : Int) ≤ -1 from h) (by decide)⟩
  | cons x l ih =>
    unfold Lib.indexByte
    cases hx : x == c with
    | true => simp
    | false =>
      by_cases h : Lib.indexByte l c = -1
      · rw [h]; simp
      · rw [show (Lib.indexByte l c == -1) = false from beq_eq_false_iff_ne.2 h]
        simp only [Bool.false_eq_true, if_false, List.length_cons]
        omega
theorem r164 : R164 := by
  intro s p h
  simp only [decide_eq_true_eq] at h
  obtain ⟨c, rfl⟩ := List.length_eq_one_iff.1 h
  rw [f164_run]
  rw [condF (show (((([c] : Bytes).length : Nat) : Int) == 0) = false from rfl)]
  cases hc : ([c] : Bytes) == s with
  | true =>
    have e : s = [c] := (beq_iff_eq.1 hc).symm
    subst e
    rw [cond_true]
    have : indexB [c] ((UInt8.toNat (List.getD [c] 0 0) : Nat) : Int) = 0 := by
      unfold indexB
      rw [show List.getD [c] 0 0 = c from rfl, toU]
      simp [Lib.indexByte]
    rw [this]
  | false => rfl
theorem r113 : R113 := by
  intro s p h
  simp only [Bool.and_eq_true, decide_eq_true_eq] at h
  obtain ⟨h1, h2⟩ := h
  obtain ⟨c, rfl⟩ := List.length_eq_one_iff.1 h2
  obtain ⟨b1, b2⟩ := index_bounds s c
  have key : t142 s [c] = some (cut0 s c, cut1 s c, hasB s c) := by
    unfold t142 cut0 cut1 hasB
    rw [show List.getD [c] 0 0 = c from rfl]
    rw [condT (show decide (([c] : Bytes).length = 1) = true from rfl)]
    cases hi : decide (indexB s ((c.toNat : Nat) : Int) ≥ 0) with
    | false => rfl
    | true =>
      have h0 : 0 ≤ indexB s ((c.toNat : Nat) : Int) := by simpa using hi
      have h3 := b2 h0
      generalize indexB s ((c.toNat : Nat) : Int) = n at *
      have e1 : wrap .i64 (n + ((([c] : Bytes).length : Nat) : Int)) = n + 1 := by
        show wrap .i64 (n + 1) = n + 1
        exact wrap_in (by omega) (by omega)
      rw [e1, cond_true, condT (show decide ((0 : Int) ≤ 0) = true from rfl), cond_true, condT (dT (by omega)), condT (dT (by omega)), condT (dT (by omega)), condT (dT (Int.le_refl _)), cond_true, cond_true]
      have e2 : (n + 1).toNat = n.toNat + 1 := by omega
      rw [e2]
      simp
  rw [f113_run]
  unfold t142_ok t142_0 t142_1 t142_2
  rw [key]; rfl

end Go.Ev.P

set_option linter.unusedVariables false
set_option linter.unusedSimpArgs false
namespace Go.Ev.P
open Go Go.Ev Go.Proofs
/-! ### numbers -/
theorem has_eq (s : Bytes) : t199 s [45] = some (negB s) := by
  unfold t199
  cases s with
  | nil => rfl
  | cons b l =>
    rw [condT (dT (by simp <;> omega)), condT (show decide ((0 : Int) ≤ 0) = true from rfl), condT (dT (by simp <;> omega)), condT (dT (by simp <;> omega))]
    have e : (List.drop (Int.toNat 0) (List.take (Int.toNat ((([45] : Bytes).length : Nat) : Int)) (b :: l)) == [45]) = (b == 45) := by
      show ([b] == ([45] : Bytes)) = (b == 45)
      simp
    rw [e]; rfl
theorem cut_eq (s : Bytes) : t165 s [45] = some (digsB s, negB s) := by
  unfold t165 t199_ok t199_0
  rw [has_eq]
  unfold digsB
  cases hn : negB s with
  | false => rfl
  | true =>
    cases s with
    | nil => cases hn
    | cons b l =>
      show cond true (cond (!true) _ _) _ = _
      rw [cond_true, condF (show (!true) = false from rfl), condT (dT (by simp <;> omega)), condT (dT (by simp <;> omega)), condT (dT (Int.le_refl _))]
      simp
theorem cutP_eq (s : Bytes) : t143 s [45] = some (digsB s, negB s) := by
  unfold t143 t165_ok t165_0 t165_1
  rw [cut_eq]; rfl
theorem trimP_eq (s : Bytes) : t175 s [45] = some (digsB s) := by
  unfold t175 t199_ok t199_0
  rw [has_eq]
  unfold digsB
  cases hn : negB s with
  | false => rfl
  | true =>
    cases s with
    | nil => cases hn
    | cons b l =>
      show cond true (cond true _ _) _ = _
      rw [cond_true, cond_true, condT (dT (by simp <;> omega)), condT (dT (by simp <;> omega)), condT (dT (Int.le_refl _))]
      simp
theorem trimPP_eq (s : Bytes) : t146 s [45] = some (digsB s) := by
  unfold t146 t175_ok t175_0
  rw [trimP_eq]; rfl
theorem dig256 : ∀ n, n < 256 → digB.contains (UInt8.ofNat n) = (Lib.digitVal (UInt8.ofNat n)).isSome := by decide +kernel
theorem dig_val (b : UInt8) : digB.contains b = (Lib.digitVal b).isSome := by
  have := dig256 b.toNat (by have := UInt8.toNat_lt b; omega)
  rwa [UInt8.ofNat_toNat] at this
theorem decFrom_some : ∀ (d : Bytes) (acc : Nat), (d.all fun b => digB.contains b) = true → ∃ m, Lib.decFrom acc d = some m
  | [], acc, _ => ⟨acc, rfl⟩
  | b :: d, acc, h => by
    simp only [List.all_cons, Bool.and_eq_true] at h
    rw [dig_val] at h
    obtain ⟨v, hv⟩ := Option.isSome_iff_exists.1 h.1
    obtain ⟨m, hm⟩ := decFrom_some d (acc * 10 + v) h.2
    exact ⟨m, by simp only [Lib.decFrom, hv]; exact hm⟩
theorem decFrom_snoc : ∀ (e : Bytes) (acc : Nat) (b : UInt8), Lib.decFrom acc (e ++ [b]) = (Lib.decFrom acc e).bind fun k => Lib.decFrom k [b]
  | [], acc, b => rfl
  | x :: e, acc, b => by
    simp only [List.cons_append, Lib.decFrom]
    cases Lib.digitVal x with
    | none => rfl
    | some v => exact decFrom_snoc e (acc * 10 + v) b
theorem dec_digit {b : UInt8} {v : Nat} (h : Lib.digitVal b = some v) : v < 10 ∧ UInt8.ofNat (48 + v) = b := by
  obtain ⟨h1, h2, h3⟩ := Lib.digitVal_eq h
  refine ⟨by omega, ?_⟩
  rw [show 48 + v = b.toNat by omega, UInt8.ofNat_toNat]
theorem canon : ∀ (n : Nat) (d : Bytes) (m : Nat), d.length = n + 1 → Lib.decFrom 0 d = some m → (Lib.decDigits m = d ↔ ¬ (d.getD 0 0 = 48 ∧ 1 < d.length)) := by
  intro n
  induction n with
  | zero =>
    intro d m hl hm
    obtain ⟨b, rfl⟩ := List.length_eq_one_iff.1 hl
    simp only [Lib.decFrom] at hm
    cases hv : Lib.digitVal b with
    | none => rw [hv] at hm; cases hm
    | some v =>
      rw [hv] at hm
      simp only [Option.some.injEq] at hm
      obtain ⟨h1, h2⟩ := dec_digit hv
      subst hm
      rw [show 0 * 10 + v = v by omega, Lib.decDigits_one h1, h2]
      simp
  | succ n ih =>
    intro d m hl hm
    have hne : d ≠ [] := by intro e; subst e; simp at hl
    obtain ⟨e, b, rfl⟩ : ∃ e b, d = e ++ [b] := ⟨d.dropLast, d.getLast hne, (List.dropLast_concat_getLast hne).symm⟩
    have hle : e.length = n + 1 := by simpa using hl
    rw [decFrom_snoc] at hm
    cases he : Lib.decFrom 0 e with
    | none => rw [he] at hm; cases hm
    | some k =>
      rw [he] at hm
      simp only [Option.bind_some, Lib.decFrom] at hm
      cases hv : Lib.digitVal b with
      | none => rw [hv] at hm; cases hm
      | some v =>
        rw [hv] at hm
        simp only [Option.some.injEq] at hm
        obtain ⟨h1, h2⟩ := dec_digit hv
        have hi := ih e k hle he
        have hg : (e ++ [b]).getD 0 0 = e.getD 0 0 := by
          cases e with
          | nil => simp at hle
          | cons x e => rfl
        have hln : 1 < (e ++ [b]).length := by simp; omega
        rw [hg]
        by_cases hk : k = 0
        · subst hk
          have h48 : e.getD 0 0 = 48 := by
            by_cases h : e.getD 0 0 = 48
            · exact h
            · have := hi.2 fun hh => h hh.1
              rw [← this, Lib.decDigits_one (by decide)]; rfl
          rw [← hm, show 0 * 10 + v = v by omega, Lib.decDigits_one h1]
          constructor
          · intro hc
            have := congrArg List.length hc
            rw [List.length_append] at this
            simp only [List.length_cons, List.length_nil] at this
            omega
          · intro hc; exact absurd ⟨h48, hln⟩ hc
        · have hbig : ¬ m < 10 := by omega
          have hd : m / 10 = k := by omega
          have hr : m % 10 = v := by omega
          rw [Lib.decDigits, dif_neg hbig, hd, hr, h2]
          rw [show (Lib.decDigits k ++ [b] = e ++ [b]) ↔ Lib.decDigits k = e from ⟨fun h => List.append_cancel_right h, fun h => by rw [h]⟩, hi]
          have h3 : e.getD 0 0 = 48 → 1 < e.length := by
            intro h48
            by_cases h1l : 1 < e.length
            · exact h1l
            · exfalso
              obtain ⟨x, rfl⟩ := List.length_eq_one_iff.1 (show e.length = 1 by omega)
              have hx : x = 48 := h48
              subst hx
              simp only [Lib.decFrom] at he
              have : Lib.digitVal 48 = some 0 := by decide
              rw [this] at he
              simp at he
              exact hk he.symm
          constructor
          · intro h hh; exact h ⟨hh.1, h3 hh.1⟩
          · intro h hh; exact h ⟨hh.1, hln⟩

end Go.Ev.P

set_option linter.unusedVariables false
set_option linter.unusedSimpArgs false
namespace Go.Ev.P
open Go Go.Ev Go.Proofs
theorem split_s (s : Bytes) : s = cond (negB s) (45 :: digsB s) (digsB s) := by
  unfold digsB
  cases hn : negB s with
  | false => rfl
  | true =>
    cases s with
    | nil => cases hn
    | cons b l =>
      have : b = 45 := by simpa [negB] using hn
      subst this; rfl
theorem digs_len (s : Bytes) : (digsB s).length ≤ s.length ∧ s.length ≤ (digsB s).length + 1 := by
  unfold digsB
  cases negB s <;> simp <;> omega
/-- What digits alone spell. -/
theorem digits_val {d : Bytes} (hne : d ≠ []) (hl : d.length ≤ 15) (ha : (d.all fun b => digB.contains b) = true) :
    ∃ m, Lib.decFrom 0 d = some m ∧ m < 1000000000000000000 ∧ Lib.atoi d = some (m : Int) ∧ Lib.atoi (45 :: d) = some (-(m : Int)) ∧ (Lib.decDigits m = d ↔ ¬ (d.getD 0 0 = 48 ∧ 1 < d.length)) := by
  obtain ⟨m, hm⟩ := decFrom_some d 0 ha
  have hdn : Lib.decNat d = some m := by
    unfold Lib.decNat
    rw [show d.isEmpty = false from by cases d with | nil => exact absurd rfl hne | cons _ _ => rfl]
    exact hm
  refine ⟨m, hm, Lib.decFrom_lt18 hm (by omega), ?_, ?_, canon (d.length - 1) d m (by have := List.length_pos_iff.2 hne; omega) hm⟩
  · cases d with
    | nil => exact absurd rfl hne
    | cons b l =>
      simp only [List.all_cons, Bool.and_eq_true] at ha
      have hb := ha.1
      have h45 : (b == 45) = false := by
        cases h : b == 45 with
        | false => rfl
        | true => have : b = 45 := by simpa using h
                  subst this; exact absurd hb (by decide)
      have h43 : (b == 43) = false := by
        cases h : b == 43 with
        | false => rfl
        | true => have : b = 43 := by simpa using h
                  subst this; exact absurd hb (by decide)
      unfold Lib.atoi
      simp only [h45, h43, Bool.false_eq_true, if_false, hdn, Option.map_some]
  · unfold Lib.atoi
    simp only [beq_self_eq_true, if_true, hdn, Option.map_some]
theorem digB_all (d : Bytes) : (trimB d digB == []) = (d.all fun b => digB.contains b) := trim_nil d digB
theorem only_digB (d : Bytes) : onlyB d digB = (d.all fun b => digB.contains b) := only_all d digB
theorem trimOk_dig {d : Bytes} (h : d.length ≤ 1000000) : trimOk d digB = true := by
  unfold trimOk
  rw [dT h, show decide (digB.length ≤ 1000) = true from by decide, show (digB.all fun b => decide (b.toNat < 128)) = true from by decide]; rfl
theorem b48 (d : Bytes) : ((((d.getD 0 0).toNat : Nat) : Int) == 48) = decide (d.getD 0 0 = 48) := by
  by_cases h : d.getD 0 0 = 48
  · rw [h, dT rfl]; rfl
  · rw [dF h]
    have : (d.getD 0 0).toNat ≠ 48 := fun e => h (UInt8.toNat_inj.1 e)
    cases hq : ((((d.getD 0 0).toNat : Nat) : Int) == 48) with
    | false => rfl
    | true => exact absurd (by have := beq_iff_eq.1 hq; omega) this
theorem r115 : R115 := by
  intro s k h
  simp only [Bool.and_eq_true, decide_eq_true_eq] at h
  obtain ⟨hl, hk⟩ := h
  obtain ⟨l1, l2⟩ := digs_len s
  rw [f115_run]
  unfold t143_ok t143_0 t143_1
  rw [cutP_eq]
  simp only [Option.isSome_some, Option.getD_some, cond_true]
  have ed : ([48, 49, 50, 51, 52, 53, 54, 55, 56, 57] : Bytes) = digB := rfl
  rw [ed]
  unfold numK numBad
  generalize hd : digsB s = d at *
  generalize negB s = neg at *
  cases h1 : (d == []) with
  | true => rfl
  | false =>
    have hne : d ≠ [] := by simpa using h1
    have hpos := List.length_pos_iff.2 hne
    rw [cond_false, Bool.false_or]
    cases h2 : decide ((d.length : Int) > k) with
    | true => rfl
    | false =>
      have h2' : ¬ (d.length : Int) > k := by simpa using h2
      rw [cond_false, Bool.false_or, condT (trimOk_dig (by omega)), digB_all]
      cases h3 : d.all fun b => digB.contains b with
      | false => rfl
      | true =>
        obtain ⟨m, v1, v2, v3, v4, v5⟩ := digits_val hne (by omega) h3
        have hok : atoiOkB d = true := by unfold atoiOkB; rw [v3, dT (by omega)]; rfl
        rw [show (!true) = false from rfl, cond_false, Bool.false_or, condT (show decide ((0 : Int) ≤ 0) = true from rfl), condT (dT (by omega)), show Int.toNat (0 : Int) = 0 from rfl, hok]
        cases ((((d.getD 0 0).toNat : Nat) : Int) == 48) with
        | false => cases neg <;> rfl
        | true =>
          rw [cond_true, Bool.true_and]
          cases decide ((d.length : Int) > 1) with
          | true => rfl
          | false => cases neg <;> rfl
theorem r118 : R118 := by
  intro s k h
  simp only [Bool.and_eq_true, decide_eq_true_eq] at h
  obtain ⟨hl, hk⟩ := h
  obtain ⟨l1, l2⟩ := digs_len s
  have hs := split_s s
  rw [f118_run]
  unfold t146_ok t146_0
  rw [trimPP_eq]
  simp only [Option.isSome_some, Option.getD_some, cond_true]
  have ed : ([48, 49, 50, 51, 52, 53, 54, 55, 56, 57] : Bytes) = digB := rfl
  rw [ed]
  unfold numR
  generalize hd : digsB s = d at *
  cases h1 : (d == []) with
  | true => rfl
  | false =>
    have hne : d ≠ [] := by simpa using h1
    rw [cond_false, Bool.false_or]
    cases h2 : decide ((d.length : Int) > k) with
    | true => rfl
    | false =>
      have h2' : ¬ (d.length : Int) > k := by simpa using h2
      rw [cond_false, Bool.false_or, condT (dT (by omega)), only_digB]
      cases h3 : d.all fun b => digB.contains b with
      | false => rfl
      | true =>
        obtain ⟨m, v1, v2, v3, v4, v5⟩ := digits_val hne (by omega) h3
        have ha : Lib.atoi s = some (cond (negB s) (-(m : Int)) (m : Int)) := by
          cases hng : negB s with
          | true => rw [hng, cond_true] at hs; rw [hs]; exact v4
          | false => rw [hng, cond_false] at hs; rw [hs]; exact v3
        have hok : atoiOkB s = true := by unfold atoiOkB; rw [ha, dT (by omega)]; rfl
        have hz : -9223372036854775808 ≤ atoiZ s ∧ atoiZ s ≤ 9223372036854775807 := by
          unfold atoiZ; rw [ha]
          cases negB s <;> simp <;> omega
        rw [show (!true) = false from rfl, cond_false, cond_false, condT hok, condT (show (decide (-9223372036854775808 ≤ atoiZ s) && decide (atoiZ s ≤ 9223372036854775807)) = true by rw [dT hz.1, dT hz.2]; rfl)]
theorem num_eq (s : Bytes) : (numK s 15).2 = (numR s 15).2 ∧ ((numK s 15).2 = true → (numK s 15).1 = (numR s 15).1) := by
  have hs := split_s s
  unfold numK numR numBad
  generalize hd : digsB s = d at *
  cases h1 : (d == []) with
  | true => exact ⟨rfl, fun h => by cases h⟩
  | false =>
    have hne : d ≠ [] := by simpa using h1
    rw [Bool.false_or, Bool.false_or]
    cases h2 : decide ((d.length : Int) > 15) with
    | true => exact ⟨rfl, fun h => by cases h⟩
    | false =>
      have h2' : ¬ (d.length : Int) > 15 := by simpa using h2
      rw [Bool.false_or, Bool.false_or, digB_all, only_digB]
      cases h3 : d.all fun b => digB.contains b with
      | false => exact ⟨rfl, fun h => by cases h⟩
      | true =>
        obtain ⟨m, v1, v2, v3, v4, v5⟩ := digits_val hne (by omega) h3
        rw [show (!true) = false from rfl, Bool.false_or, cond_false, b48]
        have hz : atoiZ d = (m : Int) := by unfold atoiZ; rw [v3]; rfl
        cases hn : negB s with
        | false =>
          rw [hn, cond_false] at hs
          have hzs : atoiZ s = (m : Int) := by rw [hs]; exact hz
          have hi : itoaZ (m : Int) = Lib.decDigits m := Lib.itoa_nonneg m
          rw [hzs, hi, hz, cond_false, Bool.or_false]
          have e : (Lib.decDigits m == s) = !(decide (d.getD 0 0 = 48) && decide ((d.length : Int) > 1)) := by
            rw [hs, Bool.eq_iff_iff, beq_iff_eq, v5]
            simp only [Bool.not_eq_true', Bool.and_eq_false_iff, decide_eq_false_iff_not]
            constructor
            · intro h
              by_cases hq : d.getD 0 0 = 48
              · exact .inr fun hl => h ⟨hq, by omega⟩
              · exact .inl hq
            · rintro (h | h) ⟨g1, g2⟩
              · exact h g1
              · exact h (by omega)
          rw [e]
          cases decide (d.getD 0 0 = 48) && decide ((d.length : Int) > 1) with
          | true => exact ⟨rfl, fun h => by cases h⟩
          | false => exact ⟨rfl, fun _ => rfl⟩
        | true =>
          rw [hn, cond_true] at hs
          have hzs : atoiZ s = -(m : Int) := by unfold atoiZ; rw [hs, v4]; rfl
          rw [hzs, hz, cond_true, Bool.or_true, Bool.and_true]
          have hw : wrap .i64 (0 - (m : Int)) = -(m : Int) := by rw [wrap_in (by omega) (by omega)]; omega
          rw [hw]
          have h48 : m = 0 → d.getD 0 0 = 48 := by
            intro h0
            by_cases hq : d.getD 0 0 = 48
            · exact hq
            · have := v5.2 fun hh => hq hh.1
              rw [← this, h0, Lib.decDigits_one (by decide)]; rfl
          have e : (itoaZ (-(m : Int)) == s) = !decide (d.getD 0 0 = 48) := by
            by_cases h0 : m = 0
            · rw [dT (h48 h0), h0, hs]
              have : itoaZ (-((0 : Nat) : Int)) = [48] := by
                show Lib.itoa 0 = [48]
                unfold Lib.itoa
                rw [if_neg (by decide), show (0 : Int).toNat = 0 from rfl, Lib.decDigits_one (by decide)]; rfl
              rw [this]
              rfl
            · have hi : itoaZ (-(m : Int)) = 45 :: Lib.decDigits m := Lib.itoa_neg m (by omega)
              rw [hi, hs, Bool.eq_iff_iff, beq_iff_eq, List.cons.injEq, v5]
              simp only [true_and, Bool.not_eq_true', decide_eq_false_iff_not]
              constructor
              · intro h hq
                refine h ⟨hq, ?_⟩
                by_cases h1l : 1 < d.length
                · exact h1l
                · exfalso
                  have hpos := List.length_pos_iff.2 hne
                  obtain ⟨x, rfl⟩ := List.length_eq_one_iff.1 (show d.length = 1 by omega)
                  have hx : x = 48 := hq
                  subst hx
                  simp only [Lib.decFrom] at v1
                  have : Lib.digitVal 48 = some 0 := by decide
                  rw [this] at v1
                  simp at v1
                  exact h0 v1.symm
              · intro h hh; exact h hh.1
          rw [e]
          cases decide (d.getD 0 0 = 48) with
          | true => exact ⟨rfl, fun h => by cases h⟩
          | false => exact ⟨rfl, fun _ => rfl⟩

end Go.Ev.P

set_option linter.unusedVariables false
set_option linter.unusedSimpArgs false
namespace Go.Ev.P
open Go Go.Ev Go.Proofs
/-! ### names and texts -/
theorem root_w : t110_0 = rootsL := rfl
theorem kind_w : t111_0 = kindsL := rfl
theorem root_q : t116_0 = rootsL := rfl
theorem kind_q : t117_0 = kindsL := rfl
theorem roots_len (i : Nat) : (List.getD rootsL i (Tc.dflt .str)).length ≤ 2 := by
  by_cases h : i < 12
  · exact (show ∀ i, i < 12 → (List.getD rootsL i (Tc.dflt .str)).length ≤ 2 by decide) i h
  · rw [List.getD_eq_getElem?_getD, List.getElem?_eq_none (by show 12 ≤ i; omega)]; decide
theorem kinds_len (i : Nat) : (List.getD kindsL i (Tc.dflt .str)).length ≤ 4 := by
  by_cases h : i < 8
  · exact (show ∀ i, i < 8 → (List.getD kindsL i (Tc.dflt .str)).length ≤ 4 by decide) i h
  · rw [List.getD_eq_getElem?_getD, List.getElem?_eq_none (by show 8 ≤ i; omega)]; decide
theorem itoa_small {n : Int} (h0 : 0 ≤ n) (h1 : n < 10) : (itoaZ n).length = 1 := by
  obtain ⟨k, rfl⟩ : ∃ k : Nat, n = k := ⟨n.toNat, by omega⟩
  unfold itoaZ
  rw [Lib.itoa_nonneg, Lib.decDigits_one (by omega)]; rfl
theorem chord_in {c : Chord} (h : chordF c = 0) : 0 ≤ c.1 ∧ c.1 ≤ 11 ∧ 1 ≤ c.2.1 ∧ c.2.1 ≤ 7 ∧ 0 ≤ c.2.2 ∧ c.2.2 ≤ 3 := by
  unfold chordF at h
  cases h1 : outside c.1 0 11 with
  | true => rw [h1] at h; cases h
  | false =>
    rw [h1, cond_false] at h
    cases h2 : outside c.2.1 1 7 with
    | true => rw [h2] at h; cases h
    | false =>
      rw [h2, cond_false] at h
      have o1 := outside_false h1
      have o2 := outside_false h2
      have k := kind_facts (k := c.2.1) (by omega) (by omega)
      cases h3 : outside c.2.2 0 ((kindT c.2.1).length - 1) with
      | true => rw [h3] at h; cases h
      | false =>
        have o3 := outside_false h3
        exact ⟨o1.1, o1.2, o2.1, o2.2, o3.1, by omega⟩
theorem right_in {c : Chord} (h : rightC c = true) : 0 ≤ c.1 ∧ c.1 ≤ 11 ∧ 1 ≤ c.2.1 ∧ c.2.1 ≤ 7 ∧ 0 ≤ c.2.2 ∧ c.2.2 ≤ 3 := by
  unfold rightC at h
  simp only [Bool.and_eq_true, decide_eq_true_eq] at h
  obtain ⟨⟨⟨⟨⟨h1, h2⟩, h3⟩, h4⟩, h5⟩, h6⟩ := h
  have k := kind_facts (k := c.2.1) (by omega) (by omega)
  exact ⟨h1, h2, h3, h4, h5, by omega⟩
theorem nameR_len {c : Chord} (h : 0 ≤ c.2.2 ∧ c.2.2 ≤ 3) : (nameR c).length ≤ 10 := by
  unfold nameR
  have h1 : (rootsL.getD c.1.toNat []).length ≤ 2 := roots_len c.1.toNat
  have h2 : (kindsL.getD c.2.1.toNat []).length ≤ 4 := kinds_len c.2.1.toNat
  cases hc : decide (c.2.2 > 0) with
  | true =>
    have h3 := itoa_small h.1 (by omega)
    rw [cond_true]
    simp only [List.length_append, List.length_cons, List.length_nil]; omega
  | false => rw [cond_false]; simp only [List.length_append, List.length_cons, List.length_nil]; omega
theorem r56 : R56 := by
  intro c _
  rw [f56_run, root_w, kind_w]
  unfold nameF
  have ec : (c.1, (c.2.1, c.2.2)) = c := rfl
  rw [ec]
  by_cases h : chordF c = 0
  · obtain ⟨h1, h2, h3, h4, h5, h6⟩ := chord_in h
    have l1 := roots_len c.1.toNat
    have l2 := kinds_len c.2.1.toNat
    rw [show (chordF c != 0) = false from by rw [h]; rfl, cond_false, cond_false, condT (dT h1), condT (dT (show c.1 < ((rootsL.length : Nat) : Int) by rw [show rootsL.length = 12 from rfl]; omega)), condT (dT (by simp only [List.length_cons, List.length_nil]; omega)),
      condT (dT (by omega)), condT (dT (show c.2.1 < ((kindsL.length : Nat) : Int) by rw [show kindsL.length = 8 from rfl]; omega)), condT (dT (by simp only [List.length_append, List.length_cons, List.length_nil]; omega))]
    unfold nameR
    cases hc : decide (c.2.2 > 0) with
    | false => rfl
    | true =>
      have h7 := itoa_small h5 (by omega)
      rw [cond_true, condT (by rw [dT (by omega), dT (by omega)]; rfl), condT (dT (by simp only [List.length_cons, List.length_nil]; omega)), condT (dT (by simp only [List.length_append, List.length_cons, List.length_nil]; omega))]
      rfl
  · rw [show (chordF c != 0) = true from by simpa using h]; rfl
theorem r59 : R59 := by
  intro c h
  obtain ⟨h1, h2, h3, h4, h5, h6⟩ := right_in h
  have l1 := roots_len c.1.toNat
  have l2 := kinds_len c.2.1.toNat
  rw [f59_run, root_q, kind_q]
  rw [condT (dT h1), condT (dT (show c.1 < ((rootsL.length : Nat) : Int) by rw [show rootsL.length = 12 from rfl]; omega)), condT (dT (by simp only [List.length_cons, List.length_nil]; omega)),
      condT (dT (by omega)), condT (dT (show c.2.1 < ((kindsL.length : Nat) : Int) by rw [show kindsL.length = 8 from rfl]; omega)), condT (dT (by simp only [List.length_append, List.length_cons, List.length_nil]; omega))]
  unfold nameR
  cases hc : decide (c.2.2 > 0) with
  | false => rfl
  | true =>
    have h7 := itoa_small h5 (by omega)
    rw [cond_true, condT (by rw [dT (by omega), dT (by omega)]; rfl), condT (dT (by simp only [List.length_cons, List.length_nil]; omega)), condT (dT (by simp only [List.length_append, List.length_cons, List.length_nil]; omega))]
    rfl
theorem cut0_len (s : Bytes) (c : UInt8) : (cut0 s c).length ≤ s.length := by
  unfold cut0
  cases hasB s c <;> simp <;> omega
theorem cut1_len (s : Bytes) (c : UInt8) : (cut1 s c).length ≤ s.length := by
  unfold cut1
  cases hasB s c <;> simp
theorem e32 : List.getD ([32] : Bytes) 0 0 = 32 := rfl
theorem e47 : List.getD ([47] : Bytes) 0 0 = 47 := rfl
theorem idxS_range (x : Bytes) : ∀ (l : List Bytes) (i : Nat), -1 ≤ idxS x l i ∧ idxS x l i < ((i + l.length : Nat) : Int)
  | [], i => by simp [idxS]; omega
  | y :: l, i => by
    have ih := idxS_range x l (i + 1)
    simp only [idxS, List.length_cons]
    cases x == y with
    | true => rw [cond_true]; omega
    | false => rw [cond_false]; omega
theorem headP_ok {s : Bytes} (h : s.length ≤ 1000000) (o : Option Fr) : headP s rootsL kindsL o = o := by
  have l1 := cut1_len s 32
  unfold headP
  rw [condT (by rw [dT h]; rfl), condT (by rw [dT (show (cut1 s 32).length ≤ 1000000 by omega)]; rfl), condT (show decide (rootsL.length ≤ 1000) = true from by decide), condT (show decide (kindsL.length ≤ 1000) = true from by decide)]
def outP (r : Chord × Int) : Option Fr := some ⟨[.dat tChord r.1, .dat tI r.2], []⟩
theorem xP_eq (c : Chord) : xP c = outP (cond (chordF c != 0) ((0, (0, 0)), chordF c) (c, 0)) := by
  unfold xP
  cases chordF c != 0 <;> rfl
theorem parseG_eq (rest : Bytes) (root kind : Int) (ok : Bool) (hr : rest.length ≤ 1000000) : parseG rest root kind ok = outP (parseE (numK (cut1 rest 47) 15) rest root kind ok) := by
  have l2 := cut1_len rest 47
  unfold parseG parseE
  cases ok with
  | false => rfl
  | true =>
    rw [show (!true) = false from rfl, cond_false, Bool.false_or]
    cases decide (root < 0) with
    | true => rfl
    | false =>
      rw [cond_false, Bool.false_or, Bool.not_not]
      cases outside kind 1 7 with
      | true => rfl
      | false =>
        rw [cond_false, cond_false]
        cases hasB rest 47 with
        | false => rw [cond_false, cond_false]; exact xP_eq _
        | true =>
          rw [cond_true, cond_true, condT (by rw [dT (show (cut1 rest 47).length ≤ 1000000 by omega)]; rfl)]
          generalize numK (cut1 rest 47) 15 = nk
          obtain ⟨v, q⟩ := nk
          cases q with
          | false => rfl
          | true =>
            rw [show (!true) = false from rfl, cond_false, Bool.false_or]
            cases decide (v < 1) with
            | true => rfl
            | false => rw [cond_false, cond_false]; exact xP_eq _
theorem parseQ_eq (rest : Bytes) (root kind : Int) (ok : Bool) (hr : rest.length ≤ 1000000) (hk : kind ≤ 7) : parseQ rest root kind ok = outP (parseE (numK (cut1 rest 47) 15) rest root kind ok) := by
  have l2 := cut1_len rest 47
  obtain ⟨n1, n2⟩ := num_eq (cut1 rest 47)
  have ho : outside kind 1 7 = decide (kind < 1) := by
    unfold outside
    rw [dF (p := kind > 7) (by omega), Bool.or_false]
  unfold parseQ parseE
  rw [ho]
  cases hb : hasB rest 47 with
  | false =>
    rw [cond_false, cond_false]
    cases ok with
    | false => rfl
    | true =>
      rw [show (!true) = false from rfl, cond_false, Bool.false_or]
      cases decide (root < 0) with
      | true => rfl
      | false =>
        rw [cond_false, Bool.false_or]
        cases decide (kind < 1) with
        | true => rfl
        | false => rw [cond_false, cond_false]; exact xP_eq _
  | true =>
    rw [cond_true, cond_true, condT (by rw [dT (show (cut1 rest 47).length ≤ 1000000 by omega)]; rfl)]
    rw [n1]
    cases hq : (numR (cut1 rest 47) 15).2 with
    | false =>
      rw [cond_false]
      cases ok with
      | false => rfl
      | true =>
        rw [show (!true) = false from rfl, cond_false, Bool.false_or]
        cases decide (root < 0) with
        | true => rfl
        | false =>
          rw [cond_false, Bool.false_or]
          cases decide (kind < 1) <;> rfl
    | true =>
      rw [n2 (n1.trans hq), cond_true]
      generalize (numR (cut1 rest 47) 15).1 = v
      cases ok with
      | false => rfl
      | true =>
        rw [show (!true) = false from rfl, cond_false, Bool.false_or]
        cases decide (root < 0) with
        | true => rfl
        | false =>
          rw [cond_false, Bool.false_or]
          cases decide (kind < 1) with
          | true => rfl
          | false =>
            rw [cond_false, cond_false, Bool.false_or]
            by_cases hv : v < 1
            · rw [dT hv, dF (show ¬ v > 0 by omega)]; rfl
            · rw [dF hv, dT (show v > 0 by omega)]; exact xP_eq _
theorem r57 : R57 := by
  intro s h
  simp only [decide_eq_true_eq] at h
  have l1 := cut1_len s 32
  rw [f57_run, headP_ok h, parseG_eq _ _ _ _ (by omega)]
  rfl
theorem r60 : R60 := by
  intro s h
  simp only [decide_eq_true_eq] at h
  have l1 := cut1_len s 32
  have hk := (idxS_range (cut0 (cut1 s 32) 47) kindsL 0).2
  rw [f60_run, headP_ok h, parseQ_eq _ _ _ _ (by omega) (by have : kindsL.length = 8 := rfl; omega)]
  rfl

end Go.Ev.P

set_option linter.unusedVariables false
set_option linter.unusedSimpArgs false
namespace Go.Ev.P
open Go Go.Ev Go.Proofs
/-! ### ends of computations -/
def Eo {α : Type} (Q : α → Prop) (o : Option α) : Prop := ∃ x, o = some x ∧ Q x
theorem eo_some {α : Type} {Q : α → Prop} {x : α} (h : Q x) : Eo Q (some x) := ⟨x, rfl, h⟩
theorem eo_cond {α : Type} {Q : α → Prop} {c : Bool} {a b : Option α} (h1 : c = true → Eo Q a) (h2 : c = false → Eo Q b) : Eo Q (cond c a b) := by
  cases c with
  | true => exact h1 rfl
  | false => exact h2 rfl
theorem eo_if {α : Type} {Q : α → Prop} {c : Bool} {a : Option α} (h : c = true) (h2 : Eo Q a) : Eo Q (cond c a none) := by rw [h]; exact h2

/-! ### a text that is changed -/
theorem enc_len (r : Int) : (Utf8.encode r).data.toList.length ≤ 4 := by
  unfold Utf8.encode
  simp only
  generalize (if Utf8.valid r = true then r.toNat else Utf8.runeError) = c
  by_cases h1 : c < 128
  · rw [if_pos h1]; exact (show (1 : Nat) ≤ 4 by decide)
  · rw [if_neg h1]
    by_cases h2 : c < 2048
    · rw [if_pos h2]; exact (show (2 : Nat) ≤ 4 by decide)
    · rw [if_neg h2]
      by_cases h3 : c < 65536
      · rw [if_pos h3]; exact (show (3 : Nat) ≤ 4 by decide)
      · rw [if_neg h3]; exact (show (4 : Nat) ≤ 4 by decide)
theorem changed_ok (s c : Bytes) (L : List Int) (at_ : Int) (h0 : 0 ≤ at_) (h1 : at_ + 10 ≤ 1099511627776) (hs : s.length ≤ 1000000) (hc : c.length ≤ 1000) :
    Eo (fun x => x.2.1 = L ∧ at_ ≤ x.2.2 ∧ x.2.2 ≤ at_ + 3 ∧ x.1.length ≤ s.length + c.length + 4) (t109 s c L at_) := by
  unfold t109
  refine eo_cond (fun _ => eo_some ⟨rfl, by show at_ ≤ at_; omega, by show at_ ≤ at_ + 3; omega, by show c.length ≤ _; omega⟩) fun hs0 => eo_cond (fun _ => eo_some ⟨rfl, by show at_ ≤ at_; omega, by show at_ ≤ at_ + 3; omega, by show c.length ≤ _; omega⟩) fun hc0 => ?_
  have hsl : 0 < s.length := by cases s with | nil => cases hs0 | cons _ _ => simp
  have hcl : 0 < c.length := by cases c with | nil => cases hc0 | cons _ _ => simp
  have e1 := nextAt_s (a := at_) h0 (by omega)
  have e2 := nextAt_s (a := at_ + 1) (by omega) (by omega)
  have e3 := nextAt_s (a := at_ + 1 + 1) (by omega) (by omega)
  rw [e1, e2, e3]
  have b1 := next_range L at_ (n := ((s.length : Nat) : Int)) (by omega) (by omega)
  have b2 := next_range L (at_ + 1) (n := ((c.length : Nat) : Int)) (by omega) (by omega)
  generalize next L at_ ((s.length : Nat) : Int) = i at *
  generalize next L (at_ + 1) ((c.length : Nat) : Int) = j at *
  have hw : wrap .i64 (i + 1) = i + 1 := wrap_in (by omega) (by omega)
  rw [hw]
  have l4 := enc_len (wrap .i32 ((UInt8.toNat (List.getD c (Int.toNat j) 0) : Nat) : Int))
  generalize (Utf8.encode (wrap .i32 ((UInt8.toNat (List.getD c (Int.toNat j) 0) : Nat) : Int))).data.toList = en at *
  refine eo_if (atOk_t h0 (by omega)) (eo_if (atOk_t (by omega) (by omega)) (eo_if (dT b2.1) (eo_if (dT b2.2) (eo_if (atOk_t (by omega) (by omega)) ?_))))
  have g2 : (List.drop (Int.toNat 0) (List.take i.toNat s)).length ≤ i.toNat := by simp; omega
  have g3 : (List.drop (Int.toNat (i + 1)) (List.take (Int.toNat ((s.length : Nat) : Int)) s)).length + i.toNat + 1 ≤ s.length := by simp; omega
  have g4 : (List.drop (Int.toNat i) (List.take (Int.toNat ((s.length : Nat) : Int)) s)).length + i.toNat ≤ s.length := by simp; omega
  generalize List.drop (Int.toNat 0) (List.take i.toNat s) = p at *
  generalize List.drop (Int.toNat (i + 1)) (List.take (Int.toNat ((s.length : Nat) : Int)) s) = q at *
  generalize List.drop (Int.toNat i) (List.take (Int.toNat ((s.length : Nat) : Int)) s) = r at *
  have d0 : decide ((0 : Int) ≤ 0) = true := rfl
  refine eo_cond (fun _ => ?_) fun _ => eo_cond (fun _ => ?_) fun _ => ?_
  · refine eo_if d0 (eo_if (dT b1.1) (eo_if (dT (by omega)) (eo_if (dT (by omega)) (eo_if (dT (by omega)) (eo_if (dT (by omega)) (eo_if (dT (Int.le_refl _)) (eo_if (dT ?_) (eo_some ?_))))))))
    · rw [List.length_append]; omega
    · exact ⟨rfl, by simp only; omega, by simp only; omega, by simp only [List.length_append]; omega⟩
  · refine eo_if d0 (eo_if (dT b1.1) (eo_if (dT (by omega)) (eo_if (dT (by omega)) (eo_if (dT (by omega)) (eo_if (dT (by omega)) (eo_if (dT (Int.le_refl _)) (eo_if (dT ?_) (eo_some ?_))))))))
    · rw [List.length_append]; omega
    · exact ⟨rfl, by simp only; omega, by simp only; omega, by simp only [List.length_append]; omega⟩
  · refine eo_if d0 (eo_if (dT b1.1) (eo_if (dT (by omega)) (eo_if (dT (by omega)) (eo_if (dT (by omega)) (eo_if (dT (Int.le_refl _)) (eo_if (dT ?_) (eo_some ?_)))))))
    · omega
    · exact ⟨rfl, by simp only; omega, by simp only; omega, by simp only [List.length_append]; omega⟩

def QT (L : List Int) (a b : Int) (f : Fr) : Prop := ∃ (a' : Int) (s : Bytes), f = ⟨[.dat .str s], [(0, .box [.dat (.slice tI) L, .dat tI a'])]⟩ ∧ a ≤ a' ∧ a' ≤ b ∧ s.length ≤ 1000
theorem QT_mono {L : List Int} {a b c d : Int} (h1 : c ≤ a) (h2 : b ≤ d) {o : Option Fr} (h : Ends (QT L a b) o) : Ends (QT L c d) o := by
  refine ends_mono h ?_
  rintro f ⟨a', l, e, h3, h4, h5⟩
  exact ⟨a', l, e, by omega, by omega, h5⟩
theorem goText (L : List Int) : ∀ (m : Nat) (s : Bytes) (n i a : Int), n - i = m → 0 ≤ i → n ≤ 2 → 0 ≤ a → a + 10 * m + 20 ≤ 1099511627776 → s.length + 20 * m ≤ 1000 → Ends (QT L a (a + 3 * m)) (f54h0 s n i L a) := by
  intro m
  induction m with
  | zero =>
    intro s n i a hn hi hm h0 h1 hs
    rw [f54h0_eq, condF (dF (by omega))]
    exact ends_some ⟨a, s, rfl, by omega, by omega, by omega⟩
  | succ m ih =>
    intro s n i a hn hi hm h0 h1 hs
    obtain ⟨⟨s', L', a'⟩, e, e1, e2, e3, e4⟩ := changed_ok s [32, 35, 47, 48, 49, 50, 55, 97, 98, 109, 120] L a h0 (by omega) (by omega) (by simp)
    simp only [List.length_cons, List.length_nil] at e1 e2 e3 e4
    subst e1
    have hok : t109_ok s [32, 35, 47, 48, 49, 50, 55, 97, 98, 109, 120] L' a = true := by unfold t109_ok; rw [e]; rfl
    have h0' : t109_0 s [32, 35, 47, 48, 49, 50, 55, 97, 98, 109, 120] L' a = s' := by unfold t109_0; rw [e]; rfl
    have h1' : t109_1 s [32, 35, 47, 48, 49, 50, 55, 97, 98, 109, 120] L' a = L' := by unfold t109_1; rw [e]; rfl
    have h2' : t109_2 s [32, 35, 47, 48, 49, 50, 55, 97, 98, 109, 120] L' a = a' := by unfold t109_2; rw [e]; rfl
    rw [f54h0_eq, condT (dT (by omega)), condT hok, h0', h1', h2', wrap_in (by omega) (by omega)]
    exact QT_mono (by omega) (by omega) (ih s' n (i + 1) a' (by omega) (by omega) (by omega) (by omega) (by omega) (by omega))
theorem aText_spec (L : List Int) (at_ : Int) (h : atOk 100 at_ = true) : (at_ ≤ (aText L at_).1 ∧ (aText L at_).1 ≤ at_ + 50 ∧ (aText L at_).2.length ≤ 1000) ∧
    I54.run ⟨[.ptr 0 0], [(0, .box [.dat (.slice tI) L, .dat tI at_])]⟩ = some ⟨[.dat .str (aText L at_).2], [(0, .box [.dat (.slice tI) L, .dat tI (aText L at_).1])]⟩ := by
  have h1 := atOk_iff.1 h
  have hE : Ends (QT L at_ (at_ + 50)) (I54.run ⟨[.ptr 0 0], [(0, .box [.dat (.slice tI) L, .dat tI at_])]⟩) := by
    rw [f54_run]
    have e1 := rangeAt_s (a := at_) (lo := 0) (hi := 11) (by omega) (by omega) (by omega)
    have e2 := rangeAt_s (a := at_ + 1) (lo := 1) (hi := 7) (by omega) (by omega) (by omega)
    have e3 := rangeAt_s (a := at_ + 1 + 1) (lo := 0) (hi := 2) (by omega) (by omega) (by omega)
    rw [e1, e2, e3]
    have r1 := rangeS_in L at_ (lo := 0) (hi := 11) (by omega) (by omega) (by omega)
    have r2 := rangeS_in L (at_ + 1) (lo := 1) (hi := 7) (by omega) (by omega) (by omega)
    have r3 := rangeS_in L (at_ + 1 + 1) (lo := 0) (hi := 2) (by omega) (by omega) (by omega)
    have hr := right_root r1.1 r1.2 r2.1 r2.2 r3.1 r3.2
    have hin := right_in hr
    have hlen := nameR_len (c := (rangeS L at_ 0 11, (rangeS L (at_ + 1) 1 7, rangeS L (at_ + 1 + 1) 0 2))) ⟨r3.1, by show rangeS L (at_ + 1 + 1) 0 2 ≤ 3; omega⟩
    have e4 := nextAt_s (a := at_ + 1 + 1 + 1) (by omega) (by omega)
    have hp : pick L (at_ + 1 + 1 + 1) [(0 : Int), (0 : Int), (0 : Int), (1 : Int), (2 : Int)] ∈ [(0 : Int), (0 : Int), (0 : Int), (1 : Int), (2 : Int)] := by
      have hn := next_range L (at_ + 1 + 1 + 1) (n := 5) (by decide) (by decide)
      unfold pick
      rw [show (([(0 : Int), (0 : Int), (0 : Int), (1 : Int), (2 : Int)] : List Int).length : Int) = 5 from rfl]
      generalize next L (at_ + 1 + 1 + 1) 5 = z at hn
      have : z.toNat < ([(0 : Int), (0 : Int), (0 : Int), (1 : Int), (2 : Int)] : List Int).length := by simp; omega
      rw [List.getD_eq_getElem?_getD, List.getElem?_eq_getElem this]
      exact List.getElem_mem this
    rw [e4]
    refine ends_if (atOk_t h1.1 (by omega)) (ends_if (atOk_t (by omega) (by omega)) (ends_if (atOk_t (by omega) (by omega)) (ends_if hr (ends_if (atOk_and (by omega) (by omega) rfl rfl) ?_))))
    have hp2 : 0 ≤ pick L (at_ + 1 + 1 + 1) [(0 : Int), (0 : Int), (0 : Int), (1 : Int), (2 : Int)] ∧ pick L (at_ + 1 + 1 + 1) [(0 : Int), (0 : Int), (0 : Int), (1 : Int), (2 : Int)] ≤ 2 := by
      revert hp
      generalize pick L (at_ + 1 + 1 + 1) [(0 : Int), (0 : Int), (0 : Int), (1 : Int), (2 : Int)] = z
      intro hp
      simp only [List.mem_cons, List.not_mem_nil, or_false] at hp
      omega
    exact QT_mono (by omega) (by omega) (goText L (pick L (at_ + 1 + 1 + 1) [(0 : Int), (0 : Int), (0 : Int), (1 : Int), (2 : Int)]).toNat _ _ 0 (at_ + 1 + 1 + 1 + 1) (by omega) (by omega) (by omega) (by omega) (by omega) (by omega))
  obtain ⟨f, hf, a', p, rfl, h2, h3, h4⟩ := hE
  exact Classical.epsilon_spec (p := fun p : Int × Bytes => (at_ ≤ p.1 ∧ p.1 ≤ at_ + 50 ∧ p.2.length ≤ 1000) ∧
    I54.run ⟨[.ptr 0 0], [(0, .box [.dat (.slice tI) L, .dat tI at_])]⟩ = some ⟨[.dat .str p.2], [(0, .box [.dat (.slice tI) L, .dat tI p.1])]⟩)
    ⟨(a', p), ⟨h2, h3, h4⟩, hf⟩
theorem r54 : R54 := fun L at_ h => (aText_spec L at_ h).2
theorem r28 : R28 := by
  intro _
  rw [f28_run]
  have e : nameF ((1 : Int), ((2 : Int), (1 : Int))) = ([99, 35, 32, 109, 105, 110, 47, 49], 0) := by
    unfold nameF
    rw [show (chordF ((1 : Int), ((2 : Int), (1 : Int))) != 0) = false from rfl]
    unfold nameR
    rw [show itoaZ ((1 : Int), ((2 : Int), (1 : Int))).2.2 = [49] from by
      show Lib.itoa ((1 : Nat) : Int) = [49]
      rw [Lib.itoa_nonneg, Lib.decDigits_one (by decide)]; rfl]
    rfl
  rw [e]; rfl

theorem beqT {α : Type} [BEq α] [LawfulBEq α] {a b : α} (h : a = b) : (a == b) = true := by rw [h]; exact beq_self_eq_true _
theorem cbeqT {a b : Chord} (h : a = b) : Tc.beq tChord a b = true := by rw [h]; show (b == b) = true; exact beq_self_eq_true _
theorem idx_len (x : Bytes) (l : List Bytes) : -1 ≤ idxS x l 0 := (idxS_range x l 0).1
theorem ceta (c : Chord) : (c.1, (c.2.1, c.2.2)) = c := rfl
theorem r7 : R7 := by
  intro a0 _
  rw [f7_run]
  have k1 : atOk 30 0 = true := rfl
  have q1 := (aChord_spec a0 0 k1).1
  refine (condT k1).trans ?_
  generalize aChord a0 0 = A at q1 ⊢
  have k2 : atOk 100 A.1 = true := atOk_t q1.1 (by omega)
  have q2 := (aText_spec a0 A.1 k2).1
  refine (condT k2).trans ?_
  generalize (aText a0 A.1).2 = s at q2 ⊢
  obtain ⟨a1, c⟩ := A
  obtain ⟨x, y, z⟩ := c
  simp only
  have hs : decide (s.length ≤ 1000000) = true := dT (by omega)
  generalize (x, (y, z)) = c
  have e : t55 c = cond (chordF c != 0) (some ([], chordF c)) (cond (rightC c) (some (tonesR c, 0)) none) := rfl
  cases h : chordF c == 0 with
  | true =>
    have h0 : chordF c = 0 := by simpa using h
    have hr := chordF_right h0
    have e' : t55 c = some (tonesR c, 0) := by rw [e, h0, hr]; rfl
    have o : t55_ok c = true := by unfold t55_ok; rw [e']; rfl
    have o0 : t55_0 c = tonesR c := by unfold t55_0; rw [e']; rfl
    have o1 : t55_1 c = 0 := by unfold t55_1; rw [e']; rfl
    have on : nameF c = (nameR c, 0) := by unfold nameF; rw [h0]; rfl
    have hl := tones_len _ (mem_allC hr)
    refine (condT o).trans ?_
    refine (condT hs).trans ?_
    rw [cond_true]
    refine (condT hr).trans ?_
    refine (condT hr).trans ?_
    refine (condT hs).trans ?_
    rw [h0, o1, o0, on]
    refine (condT rfl).trans ?_
    refine (condT rfl).trans ?_
    refine (condT (dT (by omega))).trans ?_
    refine (condT (beqT rfl)).trans ?_
    refine (condT rfl).trans ?_
    refine (condT (beqT rfl)).trans ?_
    refine (condT (beqT rfl)).trans ?_
    refine (condT (cbeqT rfl)).trans ?_
    rfl
  | false =>
    have h0 : (chordF c != 0) = true := by rw [bne, h]; rfl
    have e' : t55 c = some ([], chordF c) := by rw [e, h0]; rfl
    have o : t55_ok c = true := by unfold t55_ok; rw [e']; rfl
    have o0 : t55_0 c = [] := by unfold t55_0; rw [e']; rfl
    have o1 : t55_1 c = chordF c := by unfold t55_1; rw [e']; rfl
    have on : nameF c = ([], chordF c) := by unfold nameF; rw [h0]; rfl
    refine (condT o).trans ?_
    refine (condT hs).trans ?_
    rw [cond_false]
    refine (condT hs).trans ?_
    rw [o1, o0, on]
    refine (condT (beqT rfl)).trans ?_
    refine (condT (beqT rfl)).trans ?_
    refine (condT rfl).trans ?_
    refine (condT rfl).trans ?_
    refine (condT (beqT rfl)).trans ?_
    refine (condT rfl).trans ?_
    refine (condT (beqT rfl)).trans ?_
    refine (condT (cbeqT rfl)).trans ?_
    rfl

end Go.Ev.P

namespace Go.Ev.P
open Go Go.Ev Go.Proofs
theorem e120 : EnvOk Tryd.prog En120 := sd120 e0 r120
theorem e63 : EnvOk Tryd.prog En63 := sd63 e120 r63
theorem e10 : EnvOk Tryd.prog En10 := sd10 e63 r10
theorem e12 : EnvOk Tryd.prog En12 := sd12 e10 r12
theorem e31 : EnvOk Tryd.prog En31 := sd31 e12 r31
theorem e62 : EnvOk Tryd.prog En62 := sd62 e31 r62
theorem e9 : EnvOk Tryd.prog En9 := sd9 e62 r9
theorem e77 : EnvOk Tryd.prog En77 := sd77 e9 r77
theorem e78 : EnvOk Tryd.prog En78 := sd78 e77 r78
theorem e19 : EnvOk Tryd.prog En19 := sd19 e78 r19
theorem e27 : EnvOk Tryd.prog En27 := sd27 e19 r27
theorem e71 : EnvOk Tryd.prog En71 := sd71 e27 r71
theorem e100 : EnvOk Tryd.prog En100 := sd100 e71 r100
theorem e119 : EnvOk Tryd.prog En119 := sd119 e100 r119
theorem e61 : EnvOk Tryd.prog En61 := sd61 e119 r61
theorem e110 : EnvOk Tryd.prog En110 := sd110 e61 r110
theorem e111 : EnvOk Tryd.prog En111 := sd111 e110 r111
theorem e112 : EnvOk Tryd.prog En112 := sd112 e111 r112
theorem e56 : EnvOk Tryd.prog En56 := sd56 e112 r56
theorem e28 : EnvOk Tryd.prog En28 := sd28 e56 r28
theorem e116 : EnvOk Tryd.prog En116 := sd116 e28 r116
theorem e117 : EnvOk Tryd.prog En117 := sd117 e116 r117
theorem e59 : EnvOk Tryd.prog En59 := sd59 e117 r59
theorem e109 : EnvOk Tryd.prog En109 := sd109 e59 r109
theorem e54 : EnvOk Tryd.prog En54 := sd54 e109 r54
theorem e67 : EnvOk Tryd.prog En67 := sd67 e54 r67
theorem e55 : EnvOk Tryd.prog En55 := sd55 e67 r55
theorem e195 : EnvOk Tryd.prog En195 := sd195 e55 r195
theorem e164 : EnvOk Tryd.prog En164 := sd164 e195 r164
theorem e142 : EnvOk Tryd.prog En142 := sd142 e164 r142
theorem e113 : EnvOk Tryd.prog En113 := sd113 e142 r113
theorem e114 : EnvOk Tryd.prog En114 := sd114 e113 r114
theorem e199 : EnvOk Tryd.prog En199 := sd199 e114 r199
theorem e165 : EnvOk Tryd.prog En165 := sd165 e199 r165
theorem e143 : EnvOk Tryd.prog En143 := sd143 e165 r143
theorem e144 : EnvOk Tryd.prog En144 := sd144 e143 r144
theorem e145 : EnvOk Tryd.prog En145 := sd145 e144 r145
theorem e115 : EnvOk Tryd.prog En115 := sd115 e145 r115
theorem e57 : EnvOk Tryd.prog En57 := sd57 e115 r57
theorem e58 : EnvOk Tryd.prog En58 := sd58 e57 r58
theorem e175 : EnvOk Tryd.prog En175 := sd175 e58 r175
theorem e146 : EnvOk Tryd.prog En146 := sd146 e175 r146
theorem e176 : EnvOk Tryd.prog En176 := sd176 e146 r176
theorem e147 : EnvOk Tryd.prog En147 := sd147 e176 r147
theorem e118 : EnvOk Tryd.prog En118 := sd118 e147 r118
theorem e60 : EnvOk Tryd.prog En60 := sd60 e118 r60
theorem lawSound : Sound Tryd.prog En60.gl 7 S7 := law e60 r7
end Go.Ev.P

set_option linter.unusedSimpArgs false
set_option linter.unusedVariables false
namespace Go.Ev
open Go

/-! ### from a contract to a row -/
/-- A row of whole numbers in memory. -/
def IsRow (k : IntKind) (w : World) (a : Option Addr) (len cap : Nat) (zs : List Int) : Prop :=
  (a = none ∧ len = 0 ∧ cap = 0 ∧ zs = []) ∨
  ∃ x, a = some x ∧ len ≤ cap ∧ zs.length = cap ∧ (∀ i, i < zs.length → w.cell? (x.add i) = some (.int k (zs.getD i 0)))

/-- What is left as it was. -/
def Kept (W w' : World) : Prop := w'.os = W.os ∧ w'.output = W.output ∧ W.heap.size ≤ w'.heap.size ∧ ∀ b, b < W.heap.size → w'.heap[b]? = W.heap[b]?

theorem Kept.but {W w' : World} (h : Kept W w') (may : MemPlace → Prop) : W.keptBut w' may := by
  refine ⟨h.1, h.2.1, fun i hi => ?_⟩
  rw [h.2.2.2 i hi]
  split <;> simp_all

theorem Kept.same {W w' : World} (h : Kept W w') {p : MemPlace} (hp : p.block < W.heap.size) : W.sameAt w' p := by
  cases p with
  | cell b o => exact World.cell?_of_block (w := W) (h.2.2.2 b hp)
  | map b => exact h.2.2.2 b hp

theorem Kept.trod {H : Type} {enc : TypeId × Value → H} {P : Program} {t : TypeId} (hl : laidOutB P = true) (hr : P.readableRec t = true) (hrow : t < P.types.size) {W W' : World} {v : Value} {d : DataW H} {ps : List MemPlace}
    (h : DataW.Trod enc P W 0 (fun _ => true) true t v d ps) (hb : Kept W W') (hlt : ∀ x ∈ ps, x.block < W.heap.size) :
    DataW.Trod enc P W' 0 (fun b => decide (b < W.heap.size)) true t v d ps :=
  WideElems.Trod_stays hl hr hrow h (fun x hx => hb.same (hlt x hx)) (fun x hx => by simpa using hlt x hx)

theorem row_rel {W : World} {k : IntKind} {a : Option Addr} {len cap : Nat} {zs : List Int} (h : IsRow k W a len cap zs) :
    RelD (fun b => b < W.heap.size) W.heap (.slice (.int k)) (zs.take len) [.slice a len cap] := by
  rcases h with ⟨rfl, rfl, rfl, rfl⟩ | ⟨x, rfl, h1, h2, h3⟩
  · exact ⟨none, 0, rfl, by simp, fun i x hx => by simp at hx⟩
  · have hlen : (zs.take len).length = len := by rw [List.length_take]; omega
    refine ⟨some x, cap, by rw [hlen], by rw [hlen]; omega, fun i y hy => ?_⟩
    have hi : i < (zs.take len).length := (List.getElem?_eq_some_iff.1 hy).1
    rw [hlen] at hi
    have hc := h3 i (by omega)
    have hsp : x.spot = none := by
      have h4 := World.cell?_spot (h3 0 (by omega))
      rwa [show x.add 0 = x from if_pos rfl] at h4
    have hadd : x.add i = ⟨x.block, x.off + i, none⟩ := by
      obtain ⟨b, o, sp⟩ := x
      simp only at hsp
      subst hsp
      unfold Addr.add
      split
      · rename_i h0; simp [h0]
      · rfl
    rw [hadd, cell_at] at hc
    have hy2 : zs.getD i 0 = y := by
      rw [List.getElem?_take, if_pos hi] at hy
      rw [List.getD_eq_getElem?_getD, hy]; rfl
    refine ⟨x, rfl, hsp, ?_, [.int k y], rfl, fun j u hu => ?_⟩
    · unfold cellAt at hc
      split at hc
      · rename_i hb
        exact (Array.getElem?_eq_some_iff.1 hb).1
      · cases hc
    · have hj : j = 0 := by
        have := (List.getElem?_eq_some_iff.1 hu).1
        simpa using this
      subst hj
      simp at hu; subst hu
      rw [show (Tc.int k).size = 1 from rfl, Nat.mul_one, Nat.add_zero, hc, hy2]

/-- A law over numbers: it answers true, and leaves memory alone. -/
theorem law_calls {P : Program} {G : (Nat → Prop) → Array Obj → Prop} {f : FuncId} {s : Spec} (hs : Sound P G f s) {L : List Int} (hok : s.ok ⟨[.dat (.slice (.int .i64)) L], []⟩ = true) (hfn : s.fn ⟨[.dat (.slice (.int .i64)) L], []⟩ = some ⟨[.dat .bool true], []⟩)
    {W : World} {a : Option Addr} {len cap : Nat} (hG : G (fun b => b < W.heap.size) W.heap) (hr : RelD (fun b => b < W.heap.size) W.heap (.slice (.int .i64)) L [.slice a len cap]) :
    Calls P f #[.slice a len cap] W fun e w' => e = .returned (.bool true) ∧ Kept W w' := by
  have hcore : Core (Fr.reg ⟨[.dat (.slice (.int .i64)) L], []⟩) (fun _ => ⟨0, 0, 0, true, none⟩) (fun b => b < W.heap.size) W.heap :=
    ⟨fun k => trivial, fun k k' h => h.elim, fun k h => h.elim, fun b h => h⟩
  have hv : RelVs (view (Fr.reg ⟨[.dat (.slice (.int .i64)) L], []⟩) (fun _ => ⟨0, 0, 0, true, none⟩) (fun b => b < W.heap.size) W.heap) [.dat (.slice (.int .i64)) L] [.slice a len cap] :=
    ⟨_, _, rfl, hr, rfl⟩
  refine (hs _ _ hok hfn [.slice a len cap] W _ _ hcore hG hv).mono ?_
  rintro e w' ⟨u, rfl, hm, loc', S', hc, hle, hu⟩
  have hu' : [u] = [Value.bool true] := hu
  refine ⟨by simpa using hu', hm.1, hm.2, hc.keep.size, fun b hb => hc.keep.same b hb ?_⟩
  rintro ⟨k, hk, _⟩
  exact hk.elim
end Go.Ev
