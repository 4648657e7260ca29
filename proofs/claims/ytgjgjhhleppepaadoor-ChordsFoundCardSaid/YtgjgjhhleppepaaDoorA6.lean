import Derived.Test.YtgjgjhhleppepaaDoorA3
import Derived.Test.YtgjgjhhleppepaaDoorA4
import Derived.Test.YtgjgjhhleppepaaDoorA5
import Derived.Below
import Derived.Shelf.Strconv.Itoa3
import Derived.Test.YtgjgjhhleppepaaDoorProg
import Derived.WalkKit
import Derived.ProofKit
import Derived.OpenShut
import Derived.ChangeOld
import Derived.Carry
import Derived.SizedLaws
set_option linter.unusedVariables false
set_option linter.unusedSimpArgs false
set_option maxRecDepth 100000
namespace Go.Ev.H
open Go Go.Ev Go.Proofs
theorem mo : Tryd.prog.follows .mixedOrders = true := by kernel_rfl
theorem e0 : EnvOk Tryd.prog En0 := env_nil (by kernel_rfl)
def R120 : Prop := ∀ (a0 : Int) (a1 : Int), (true) = true → I120.run ⟨[.dat tI a0, .dat tI a1], []⟩ = some ⟨[.dat tI (below a0 a1)], []⟩
theorem sd120 (hE : EnvOk Tryd.prog En0) (h : R120) : EnvOk Tryd.prog En120 := env_add hE (gen_sound I120 hE mo Tryd.func120 rfl rfl (fun x hx => h x.1 x.2.1 hx))
def R63 : Prop := ∀ (a0 : Int) (L : (List Int)) (at_ : Int), (atOk 1 at_) = true → I63.run ⟨[.ptr 0 0, .dat tI a0], [(0, .box [.dat (.slice tI) L, .dat tI at_])]⟩ = some ⟨[.dat tI (next L at_ a0)], [(0, .box [.dat (.slice tI) (L), .dat tI (nextAt at_)])]⟩
theorem sd63 (hE : EnvOk Tryd.prog En120) (h : R63) : EnvOk Tryd.prog En63 := env_add hE (gen_sound I63 hE mo Tryd.func63 rfl rfl (fun x hx => h x.1 x.2.1 x.2.2.1 hx))
def R12 : Prop := ∀ (a0 : Int) (a1 : Int) (L : (List Int)) (at_ : Int), (atOk 1 at_) = true → I12.run ⟨[.ptr 0 0, .dat tI a0, .dat tI a1], [(0, .box [.dat (.slice tI) L, .dat tI at_])]⟩ = some ⟨[.dat tI (rangeS L at_ a0 a1)], [(0, .box [.dat (.slice tI) (L), .dat tI (rangeAt at_ a0 a1)])]⟩
theorem sd12 (hE : EnvOk Tryd.prog En63) (h : R12) : EnvOk Tryd.prog En12 := env_add hE (gen_sound I12 hE mo Tryd.func12 rfl rfl (fun x hx => h x.1 x.2.1 x.2.2.1 x.2.2.2.1 hx))
def R31 : Prop := ∀ (a0 : Int) (L : (List Int)) (at_ : Int), (atOk 1 at_) = true → I31.run ⟨[.ptr 0 0, .dat tI a0], [(0, .box [.dat (.slice tI) L, .dat tI at_])]⟩ = some ⟨[.dat .bool (next L at_ a0 == 0)], [(0, .box [.dat (.slice tI) (L), .dat tI (nextAt at_)])]⟩
theorem sd31 (hE : EnvOk Tryd.prog En12) (h : R31) : EnvOk Tryd.prog En31 := env_add hE (gen_sound I31 hE mo Tryd.func31 rfl rfl (fun x hx => h x.1 x.2.1 x.2.2.1 hx))
def R78 : Prop := ∀ (a0 : Int), (decide (0 ≤ a0) && decide (a0 ≤ 7)) = true → I78.run ⟨[.dat tI a0], []⟩ = some ⟨[.dat (.slice tI) (kindT a0)], []⟩
theorem sd78 (hE : EnvOk Tryd.prog En31) (h : R78) : EnvOk Tryd.prog En78 := env_add hE (gen_sound I78 hE mo Tryd.func78 rfl rfl (fun x hx => h x.1 hx))
def R58 : Prop := ∀ (a0 : Chord), (rightC a0) = true → I58.run ⟨[.dat tChord a0], []⟩ = some ⟨[.dat (.slice tI) (tonesR a0)], []⟩
theorem sd58 (hE : EnvOk Tryd.prog En78) (h : R58) : EnvOk Tryd.prog En58 := env_add hE (gen_sound I58 hE mo Tryd.func58 rfl rfl (fun x hx => h x.1 hx))
def R10 : Prop := ∀ (a0 : (List Int)) (L : (List Int)) (at_ : Int), (atOk 1 at_ && decide (0 < List.length a0) && decide (List.length a0 ≤ 1000)) = true → I10.run ⟨[.ptr 0 0, .dat (.slice tI) a0], [(0, .box [.dat (.slice tI) L, .dat tI at_])]⟩ = some ⟨[.dat tI (pick L at_ a0)], [(0, .box [.dat (.slice tI) (L), .dat tI (nextAt at_)])]⟩
theorem sd10 (hE : EnvOk Tryd.prog En58) (h : R10) : EnvOk Tryd.prog En10 := env_add hE (gen_sound I10 hE mo Tryd.func10 rfl rfl (fun x hx => h x.1 x.2.1 x.2.2.1 hx))
def R62 : Prop := ∀ (a0 : Int) (a1 : Int) (L : (List Int)) (at_ : Int), (atOk 8 at_) = true → I62.run ⟨[.ptr 0 0, .dat tI a0, .dat tI a1], [(0, .box [.dat (.slice tI) L, .dat tI at_])]⟩ = some ⟨[.dat tI ((oddS L at_ a0 a1).2)], [(0, .box [.dat (.slice tI) (L), .dat tI ((oddS L at_ a0 a1).1)])]⟩
theorem sd62 (hE : EnvOk Tryd.prog En10) (h : R62) : EnvOk Tryd.prog En62 := env_add hE (gen_sound I62 hE mo Tryd.func62 rfl rfl (fun x hx => h x.1 x.2.1 x.2.2.1 x.2.2.2.1 hx))
def R8 : Prop := ∀ (L : (List Int)) (at_ : Int), (atOk 1000 at_) = true → I8.run ⟨[.ptr 0 0], [(0, .box [.dat (.slice tI) L, .dat tI at_])]⟩ = some ⟨[.dat (.slice tI) ((aNotes L at_).2)], [(0, .box [.dat (.slice tI) (L), .dat tI ((aNotes L at_).1)])]⟩
theorem sd8 (hE : EnvOk Tryd.prog En62) (h : R8) : EnvOk Tryd.prog En8 := env_add hE (gen_sound I8 hE mo Tryd.func8 rfl rfl (fun x hx => h x.1 x.2.1 hx))
def R9 : Prop := ∀ (L : (List Int)) (at_ : Int), (atOk 30 at_) = true → I9.run ⟨[.ptr 0 0], [(0, .box [.dat (.slice tI) L, .dat tI at_])]⟩ = some ⟨[.dat tChord ((aChord L at_).2)], [(0, .box [.dat (.slice tI) (L), .dat tI ((aChord L at_).1)])]⟩
theorem sd9 (hE : EnvOk Tryd.prog En8) (h : R9) : EnvOk Tryd.prog En9 := env_add hE (gen_sound I9 hE mo Tryd.func9 rfl rfl (fun x hx => h x.1 x.2.1 hx))
def R11 : Prop := ∀ (a0 : Int) (L : (List Int)) (at_ : Int), (atOk 1000 at_ && decide (0 ≤ a0) && decide (a0 ≤ 5)) = true → I11.run ⟨[.ptr 0 0, .dat tI a0], [(0, .box [.dat (.slice tI) L, .dat tI at_])]⟩ = some ⟨[.dat (.slice tChord) ((aChords L at_ a0).2)], [(0, .box [.dat (.slice tI) (L), .dat tI ((aChords L at_ a0).1)])]⟩
theorem sd11 (hE : EnvOk Tryd.prog En9) (h : R11) : EnvOk Tryd.prog En11 := env_add hE (gen_sound I11 hE mo Tryd.func11 rfl rfl (fun x hx => h x.1 x.2.1 x.2.2.1 hx))
def R27 : Prop := ∀ (a0 : (List Int)) (a1 : (List Int)), (decide (List.length a0 ≤ 1000000)) = true → I27.run ⟨[.dat (.slice tI) a0, .dat (.slice tI) a1], []⟩ = some ⟨[.dat .bool (equalI a0 a1)], []⟩
theorem sd27 (hE : EnvOk Tryd.prog En11) (h : R27) : EnvOk Tryd.prog En27 := env_add hE (gen_sound I27 hE mo Tryd.func27 rfl rfl (fun x hx => h x.1 x.2.1 hx))
def R71 : Prop := ∀ (a0 : Int) (a1 : Int) (a2 : Int), (true) = true → I71.run ⟨[.dat tI a0, .dat tI a1, .dat tI a2], []⟩ = some ⟨[.dat .bool (outside a0 a1 a2)], []⟩
theorem sd71 (hE : EnvOk Tryd.prog En27) (h : R71) : EnvOk Tryd.prog En71 := env_add hE (gen_sound I71 hE mo Tryd.func71 rfl rfl (fun x hx => h x.1 x.2.1 x.2.2.1 hx))
def R121 : Prop := ∀ (a0 : Int), (true) = true → I121.run ⟨[.dat tI a0], []⟩ = some ⟨[.dat .bool (t121_0 a0)], []⟩
theorem sd121 (hE : EnvOk Tryd.prog En71) (h : R121) : EnvOk Tryd.prog En121 := env_add hE (gen_sound I121 hE mo Tryd.func121 rfl rfl (fun x hx => h x.1 hx))
theorem r121 : R121 := by
  intro a0 _
  exact f121_run a0
def R125 : Prop := ∀ (a0 : (List Int)), (decide (List.length a0 ≤ 1000)) = true → I125.run ⟨[.dat (.slice tI) a0, .clos 121 []], []⟩ = some ⟨[.dat tI (idxBy (fun o => t121_0 o) a0 0)], []⟩
theorem sd125 (hE : EnvOk Tryd.prog En121) (h : R125) : EnvOk Tryd.prog En125 := env_add hE (gen_sound I125 hE mo Tryd.func125 rfl rfl (fun x hx => h x.1 hx))
def R76 : Prop := ∀ (a0 : (List Int)), (t76_ok a0) = true → I76.run ⟨[.dat (.slice tI) a0, .clos 121 []], []⟩ = some ⟨[.dat .bool (t76_0 a0)], []⟩
theorem sd76 (hE : EnvOk Tryd.prog En125) (h : R76) : EnvOk Tryd.prog En76 := env_add hE (gen_sound I76 hE mo Tryd.func76 rfl rfl (fun x hx => h x.1 hx))
theorem rt76 (a0 : (List Int)) : I76.run ⟨[.dat (.slice tI) a0, .clos 121 []], []⟩ = (t76 a0).map (fun r => ⟨[.dat .bool r], []⟩) := by
  rw [f76_run a0]
  unfold t76
  simp only [omap_cond, Option.map_some, Option.map_none]
theorem r76 : R76 := by
  intro a0 h
  obtain ⟨r, hr⟩ := Option.isSome_iff_exists.1 h
  rw [rt76, hr]
  unfold t76_0
  rw [hr]; rfl
def R64 : Prop := ∀ (a0 : (List Int)) (a1 : Int), (decide (a1 ≤ 1000)) = true → I64.run ⟨[.dat (.slice tI) a0, .dat tI a1], []⟩ = some ⟨[.dat tI (notesF a0 a1)], []⟩
theorem sd64 (hE : EnvOk Tryd.prog En76) (h : R64) : EnvOk Tryd.prog En64 := env_add hE (gen_sound I64 hE mo Tryd.func64 rfl rfl (fun x hx => h x.1 x.2.1 hx))
def R158 : Prop := ∀ (a0 : Int), (t158_ok a0) = true → I158.run ⟨[.dat (.int .u32) a0], []⟩ = some ⟨[.dat tI (t158_0 a0)], []⟩
theorem sd158 (hE : EnvOk Tryd.prog En64) (h : R158) : EnvOk Tryd.prog En158 := env_add hE (gen_sound I158 hE mo Tryd.func158 rfl rfl (fun x hx => h x.1 hx))
theorem rt158 (a0 : Int) : I158.run ⟨[.dat (.int .u32) a0], []⟩ = (t158 a0).map (fun r => ⟨[.dat tI r], []⟩) := by
  rw [f158_run a0]
  unfold t158
  simp only [omap_cond, Option.map_some, Option.map_none]
theorem r158 : R158 := by
  intro a0 h
  obtain ⟨r, hr⟩ := Option.isSome_iff_exists.1 h
  rw [rt158, hr]
  unfold t158_0
  rw [hr]; rfl
def R159 : Prop := ∀ (a0 : Int), (t159_ok a0) = true → I159.run ⟨[.dat (.int .u64) a0], []⟩ = some ⟨[.dat tI (t159_0 a0)], []⟩
theorem sd159 (hE : EnvOk Tryd.prog En158) (h : R159) : EnvOk Tryd.prog En159 := env_add hE (gen_sound I159 hE mo Tryd.func159 rfl rfl (fun x hx => h x.1 hx))
theorem rt159 (a0 : Int) : I159.run ⟨[.dat (.int .u64) a0], []⟩ = (t159 a0).map (fun r => ⟨[.dat tI r], []⟩) := by
  rw [f159_run a0]
  unfold t159
  simp only [omap_cond, Option.map_some, Option.map_none]
theorem r159 : R159 := by
  intro a0 h
  obtain ⟨r, hr⟩ := Option.isSome_iff_exists.1 h
  rw [rt159, hr]
  unfold t159_0
  rw [hr]; rfl
def R132 : Prop := ∀ (a0 : Int), (t132_ok a0) = true → I132.run ⟨[.dat (.int .u64) a0], []⟩ = some ⟨[.dat tI (t132_0 a0)], []⟩
theorem sd132 (hE : EnvOk Tryd.prog En159) (h : R132) : EnvOk Tryd.prog En132 := env_add hE (gen_sound I132 hE mo Tryd.func132 rfl rfl (fun x hx => h x.1 hx))
theorem rt132 (a0 : Int) : I132.run ⟨[.dat (.int .u64) a0], []⟩ = (t132 a0).map (fun r => ⟨[.dat tI r], []⟩) := by
  rw [f132_run a0]
  unfold t132
  simp only [omap_cond, Option.map_some, Option.map_none]
theorem r132 : R132 := by
  intro a0 h
  obtain ⟨r, hr⟩ := Option.isSome_iff_exists.1 h
  rw [rt132, hr]
  unfold t132_0
  rw [hr]; rfl
def R160 : Prop := ∀ (a0 : Int), (true) = true → I160.run ⟨[.dat tI a0], []⟩ = some ⟨[.dat .bool (t160_0 a0)], []⟩
theorem sd160 (hE : EnvOk Tryd.prog En132) (h : R160) : EnvOk Tryd.prog En160 := env_add hE (gen_sound I160 hE mo Tryd.func160 rfl rfl (fun x hx => h x.1 hx))
theorem r160 : R160 := by
  intro a0 _
  exact f160_run a0
def R183 : Prop := ∀ (a0 : Int) (a1 : Int), (true) = true → I183.run ⟨[.dat tI a0, .dat tI a1], []⟩ = some ⟨[.dat .bool (t183_0 a0 a1)], []⟩
theorem sd183 (hE : EnvOk Tryd.prog En160) (h : R183) : EnvOk Tryd.prog En183 := env_add hE (gen_sound I183 hE mo Tryd.func183 rfl rfl (fun x hx => h x.1 x.2.1 hx))
theorem r183 : R183 := by
  intro a0 a1 _
  rw [f183_run a0 a1]
  unfold t183_0 t183
  cases h2 : (t160_0 a0) with
  | true =>
    simp only [cond_true]
    cases h4 : (!(t160_0 a1)) with
    | true =>
      simp only [cond_true]
      all_goals rfl
    | false =>
      simp only [cond_false]
      all_goals rfl
  | false =>
    simp only [cond_false]
    all_goals rfl
def R177 : Prop := ∀ (a : Int) (b : Int) (a0 : (List Int)), (decide (List.length a0 ≤ 12) && a == 0 && b == (List.length a0 : Int)) = true → I177.run ⟨[.slc 0, .dat tI a, .dat tI b], [(0, .arr tI a0)]⟩ = some ⟨[], [(0, .arr tI (sortI a0))]⟩
theorem sd177 (hE : EnvOk Tryd.prog En183) (h : R177) : EnvOk Tryd.prog En177 := env_add hE (gen_sound I177 hE mo Tryd.func177 rfl rfl (fun x hx => h x.1 x.2.1 x.2.2.1 hx))
def R148 : Prop := ∀ (a : Int) (b : Int) (lim : Int) (a0 : (List Int)), (decide (List.length a0 ≤ 12) && a == 0 && b == (List.length a0 : Int)) = true → I148.run ⟨[.slc 0, .dat tI a, .dat tI b, .dat tI lim], [(0, .arr tI a0)]⟩ = some ⟨[], [(0, .arr tI (sortI a0))]⟩
theorem sd148 (hE : EnvOk Tryd.prog En177) (h : R148) : EnvOk Tryd.prog En148 := env_add hE (gen_sound I148 hE mo Tryd.func148 rfl rfl (fun x hx => h x.1 x.2.1 x.2.2.1 x.2.2.2.1 hx))
def R122 : Prop := ∀ (a0 : (List Int)), (decide (List.length a0 ≤ 12)) = true → I122.run ⟨[.slc 0], [(0, .arr tI a0)]⟩ = some ⟨[], [(0, .arr tI (sortI a0))]⟩
theorem sd122 (hE : EnvOk Tryd.prog En148) (h : R122) : EnvOk Tryd.prog En122 := env_add hE (gen_sound I122 hE mo Tryd.func122 rfl rfl (fun x hx => h x.1 hx))
def R123 : Prop := ∀ (a0 : (List Int)), (decide (List.length a0 ≤ 1000)) = true → I123.run ⟨[.slc 0], [(0, .arr tI a0)]⟩ = some ⟨[.dat (.slice tI) (compI a0)], [(0, .dead)]⟩
theorem sd123 (hE : EnvOk Tryd.prog En122) (h : R123) : EnvOk Tryd.prog En123 := env_add hE (gen_sound I123 hE mo Tryd.func123 rfl rfl (fun x hx => h x.1 hx))
def R65 : Prop := ∀ (a0 : (List Int)), (decide (List.length a0 ≤ 12)) = true → I65.run ⟨[.dat (.slice tI) a0], []⟩ = some ⟨[.dat (.slice tI) (classI a0)], []⟩
theorem sd65 (hE : EnvOk Tryd.prog En123) (h : R65) : EnvOk Tryd.prog En65 := env_add hE (gen_sound I65 hE mo Tryd.func65 rfl rfl (fun x hx => h x.1 hx))
def R66 : Prop := ∀ (a0 : (List Int)), (decide (0 < List.length a0) && decide (List.length a0 ≤ 1000)) = true → I66.run ⟨[.dat (.slice tI) a0], []⟩ = some ⟨[.dat tI (minI a0)], []⟩
theorem sd66 (hE : EnvOk Tryd.prog En65) (h : R66) : EnvOk Tryd.prog En66 := env_add hE (gen_sound I66 hE mo Tryd.func66 rfl rfl (fun x hx => h x.1 hx))
def R119 : Prop := ∀ (a0 : Int), (decide (0 ≤ a0) && decide (a0 ≤ 7)) = true → I119.run ⟨[.dat tI a0], []⟩ = some ⟨[.dat (.slice tI) (kindT a0)], []⟩
theorem sd119 (hE : EnvOk Tryd.prog En66) (h : R119) : EnvOk Tryd.prog En119 := env_add hE (gen_sound I119 hE mo Tryd.func119 rfl rfl (fun x hx => h x.1 hx))
def R67 : Prop := ∀ (a0 : Chord), (rightC a0) = true → I67.run ⟨[.dat tChord a0], []⟩ = some ⟨[.dat (.slice tI) (tonesR a0)], []⟩
theorem sd67 (hE : EnvOk Tryd.prog En119) (h : R67) : EnvOk Tryd.prog En67 := env_add hE (gen_sound I67 hE mo Tryd.func67 rfl rfl (fun x hx => h x.1 hx))
def R68 : Prop := ∀ (a0 : (List Int)) (a1 : Int), (decide (List.length a0 ≤ 1000000)) = true → I68.run ⟨[.dat (.slice tI) a0, .dat tI a1], []⟩ = some ⟨[.dat tI (indexI a0 a1)], []⟩
theorem sd68 (hE : EnvOk Tryd.prog En67) (h : R68) : EnvOk Tryd.prog En68 := env_add hE (gen_sound I68 hE mo Tryd.func68 rfl rfl (fun x hx => h x.1 x.2.1 hx))
def R13 : Prop := ∀ (a0 : (List Int)), (true) = true → I13.run ⟨[.dat (.slice tI) a0], []⟩ = some ⟨[.dat (.slice tChord) ((ofF a0).1), .dat tI ((ofF a0).2)], []⟩
theorem sd13 (hE : EnvOk Tryd.prog En68) (h : R13) : EnvOk Tryd.prog En13 := env_add hE (gen_sound I13 hE mo Tryd.func13 rfl rfl (fun x hx => h x.1 hx))
def R100 : Prop := ∀ (a0 : Int), (true) = true → I100.run ⟨[.dat tI a0], []⟩ = some ⟨[.dat .bool (t100_0 a0)], []⟩
theorem sd100 (hE : EnvOk Tryd.prog En13) (h : R100) : EnvOk Tryd.prog En100 := env_add hE (gen_sound I100 hE mo Tryd.func100 rfl rfl (fun x hx => h x.1 hx))
theorem r100 : R100 := by
  intro a0 _
  exact f100_run a0
def R61 : Prop := ∀ (a0 : Chord), (true) = true → I61.run ⟨[.dat tChord a0], []⟩ = some ⟨[.dat tI (chordF a0)], []⟩
theorem sd61 (hE : EnvOk Tryd.prog En100) (h : R61) : EnvOk Tryd.prog En61 := env_add hE (gen_sound I61 hE mo Tryd.func61 rfl rfl (fun x hx => h x.1 hx))
def R69 : Prop := ∀ (a0 : (List Chord)), (decide (List.length a0 ≤ 1000)) = true → I69.run ⟨[.dat (.slice tChord) a0], []⟩ = some ⟨[.dat tI (rowGo a0)], []⟩
theorem sd69 (hE : EnvOk Tryd.prog En61) (h : R69) : EnvOk Tryd.prog En69 := env_add hE (gen_sound I69 hE mo Tryd.func69 rfl rfl (fun x hx => h x.1 hx))
def R70 : Prop := ∀ (a0 : (List Int)) (a1 : Int), (decide (List.length a0 ≤ 1000000)) = true → I70.run ⟨[.dat (.slice tI) a0, .dat tI a1], []⟩ = some ⟨[.dat .bool (containsI a0 a1)], []⟩
theorem sd70 (hE : EnvOk Tryd.prog En69) (h : R70) : EnvOk Tryd.prog En70 := env_add hE (gen_sound I70 hE mo Tryd.func70 rfl rfl (fun x hx => h x.1 x.2.1 hx))
def R14 : Prop := ∀ (a0 : Chord) (a1 : Chord), (true) = true → I14.run ⟨[.dat tChord a0, .dat tChord a1], []⟩ = some ⟨[.dat tI ((sharedF a0 a1).1), .dat tI ((sharedF a0 a1).2)], []⟩
theorem sd14 (hE : EnvOk Tryd.prog En70) (h : R14) : EnvOk Tryd.prog En14 := env_add hE (gen_sound I14 hE mo Tryd.func14 rfl rfl (fun x hx => h x.1 x.2.1 hx))
def R15 : Prop := ∀ (a0 : Chord) (a1 : Int), (t15_ok a0 a1) = true → I15.run ⟨[.dat tChord a0, .dat tI a1], []⟩ = some ⟨[.dat tChord (t15_0 a0 a1), .dat tI (t15_1 a0 a1)], []⟩
theorem sd15 (hE : EnvOk Tryd.prog En14) (h : R15) : EnvOk Tryd.prog En15 := env_add hE (gen_sound I15 hE mo Tryd.func15 rfl rfl (fun x hx => h x.1 x.2.1 hx))
theorem rt15 (a0 : Chord) (a1 : Int) : I15.run ⟨[.dat tChord a0, .dat tI a1], []⟩ = (t15 a0 a1).map (fun r => ⟨[.dat tChord r.1, .dat tI r.2], []⟩) := by
  rw [f15_run a0 a1]
  unfold t15
  simp only [omap_cond, Option.map_some, Option.map_none]
theorem r15 : R15 := by
  intro a0 a1 h
  obtain ⟨r, hr⟩ := Option.isSome_iff_exists.1 h
  rw [rt15, hr]
  unfold t15_0 t15_1
  rw [hr]; rfl
def R73 : Prop := ∀ (a0 : Int) (tn : Int) (mj : (List Int)), (t73_ok a0 tn mj) = true → I73.run ⟨[.dat tI a0, .ptr 0 0, .ptr 1 0], [(0, .box [.slc 2]), (1, .box [.dat tI tn]), (2, .arr tI mj)]⟩ = some ⟨[.dat .bool (t73_0 a0 tn mj)], [(0, .box [.slc 2]), (1, .box [.dat tI tn]), (2, .arr tI mj)]⟩
theorem sd73 (hE : EnvOk Tryd.prog En15) (h : R73) : EnvOk Tryd.prog En73 := env_add hE (gen_sound I73 hE mo Tryd.func73 rfl rfl (fun x hx => h x.1 x.2.1 x.2.2.1 hx))
theorem rt73 (a0 : Int) (tn : Int) (mj : (List Int)) : I73.run ⟨[.dat tI a0, .ptr 0 0, .ptr 1 0], [(0, .box [.slc 2]), (1, .box [.dat tI tn]), (2, .arr tI mj)]⟩ = (t73 a0 tn mj).map (fun r => ⟨[.dat .bool r], [(0, .box [.slc 2]), (1, .box [.dat tI tn]), (2, .arr tI mj)]⟩) := by
  rw [f73_run a0 tn mj]
  unfold t73
  simp only [omap_cond, Option.map_some, Option.map_none]
theorem r73 : R73 := by
  intro a0 tn mj h
  obtain ⟨r, hr⟩ := Option.isSome_iff_exists.1 h
  rw [rt73, hr]
  unfold t73_0
  rw [hr]; rfl
def R125a : Prop := ∀ (a0 : (List Int)) (tn : Int) (mj : (List Int)), (decide (List.length a0 ≤ 1000) && decide (List.length mj ≤ 1000)) = true → I125a.run ⟨[.dat (.slice tI) a0, .clos 73 [.ptr 0 0, .ptr 1 0]], [(0, .box [.slc 2]), (1, .box [.dat tI tn]), (2, .arr tI mj)]⟩ = some ⟨[.dat tI (idxBy (fun o => t73_0 o tn mj) a0 0)], [(0, .box [.slc 2]), (1, .box [.dat tI (tn)]), (2, .arr tI (mj))]⟩
theorem sd125a (hE : EnvOk Tryd.prog En73) (h : R125a) : EnvOk Tryd.prog En125a := env_or hE rfl (gen_sound I125a hE mo Tryd.func125 rfl rfl (fun x hx => h x.1 x.2.1 x.2.2.1 hx))
def R76a : Prop := ∀ (a0 : (List Int)) (tn : Int) (mj : (List Int)), (t76a_ok a0 tn mj) = true → I76a.run ⟨[.dat (.slice tI) a0, .clos 73 [.ptr 0 0, .ptr 1 0]], [(0, .box [.slc 2]), (1, .box [.dat tI tn]), (2, .arr tI mj)]⟩ = some ⟨[.dat .bool (t76a_0 a0 tn mj)], [(0, .box [.slc 2]), (1, .box [.dat tI tn]), (2, .arr tI mj)]⟩
theorem sd76a (hE : EnvOk Tryd.prog En125a) (h : R76a) : EnvOk Tryd.prog En76a := env_or hE rfl (gen_sound I76a hE mo Tryd.func76 rfl rfl (fun x hx => h x.1 x.2.1 x.2.2.1 hx))
theorem rt76a (a0 : (List Int)) (tn : Int) (mj : (List Int)) : I76a.run ⟨[.dat (.slice tI) a0, .clos 73 [.ptr 0 0, .ptr 1 0]], [(0, .box [.slc 2]), (1, .box [.dat tI tn]), (2, .arr tI mj)]⟩ = (t76a a0 tn mj).map (fun r => ⟨[.dat .bool r], [(0, .box [.slc 2]), (1, .box [.dat tI tn]), (2, .arr tI mj)]⟩) := by
  rw [f76a_run a0 tn mj]
  unfold t76a
  simp only [omap_cond, Option.map_some, Option.map_none]
theorem r76a : R76a := by
  intro a0 tn mj h
  obtain ⟨r, hr⟩ := Option.isSome_iff_exists.1 h
  rw [rt76a, hr]
  unfold t76a_0
  rw [hr]; rfl
def R75 : Prop := ∀ (a0 : Chord) (tn : Int) (mj : (List Int)), (t75_ok a0 tn mj) = true → I75.run ⟨[.dat tChord a0, .ptr 0 0], [(0, .box [.clos 73 [.ptr 1 0, .ptr 2 0]]), (1, .box [.slc 3]), (2, .box [.dat tI tn]), (3, .arr tI mj)]⟩ = some ⟨[.dat .bool (t75_0 a0 tn mj)], [(0, .box [.clos 73 [.ptr 1 0, .ptr 2 0]]), (1, .box [.slc 3]), (2, .box [.dat tI tn]), (3, .arr tI mj)]⟩
theorem sd75 (hE : EnvOk Tryd.prog En76a) (h : R75) : EnvOk Tryd.prog En75 := env_add hE (gen_sound I75 hE mo Tryd.func75 rfl rfl (fun x hx => h x.1 x.2.1 x.2.2.1 hx))
theorem rt75 (a0 : Chord) (tn : Int) (mj : (List Int)) : I75.run ⟨[.dat tChord a0, .ptr 0 0], [(0, .box [.clos 73 [.ptr 1 0, .ptr 2 0]]), (1, .box [.slc 3]), (2, .box [.dat tI tn]), (3, .arr tI mj)]⟩ = (t75 a0 tn mj).map (fun r => ⟨[.dat .bool r], [(0, .box [.clos 73 [.ptr 1 0, .ptr 2 0]]), (1, .box [.slc 3]), (2, .box [.dat tI tn]), (3, .arr tI mj)]⟩) := by
  rw [f75_run a0 tn mj]
  unfold t75
  simp only [omap_cond, Option.map_some, Option.map_none]
theorem r75 : R75 := by
  intro a0 tn mj h
  obtain ⟨r, hr⟩ := Option.isSome_iff_exists.1 h
  rw [rt75, hr]
  unfold t75_0
  rw [hr]; rfl
def R124 : Prop := ∀ (a0 : (List Chord)) (tn : Int) (mj : (List Int)), (decide (List.length a0 ≤ 1000) && decide (List.length mj ≤ 1000) && List.all a0 rightC) = true → I124.run ⟨[.dat (.slice tChord) a0, .clos 75 [.ptr 0 0]], [(0, .box [.clos 73 [.ptr 1 0, .ptr 2 0]]), (1, .box [.slc 3]), (2, .box [.dat tI tn]), (3, .arr tI mj)]⟩ = some ⟨[.dat tI (idxBy (fun o => t75_0 o tn mj) a0 0)], [(0, .box [.clos 73 [.ptr 1 0, .ptr 2 0]]), (1, .box [.slc 3]), (2, .box [.dat tI (tn)]), (3, .arr tI (mj))]⟩
theorem sd124 (hE : EnvOk Tryd.prog En75) (h : R124) : EnvOk Tryd.prog En124 := env_add hE (gen_sound I124 hE mo Tryd.func124 rfl rfl (fun x hx => h x.1 x.2.1 x.2.2.1 hx))
def R74 : Prop := ∀ (a0 : (List Chord)) (tn : Int) (mj : (List Int)), (t74_ok a0 tn mj) = true → I74.run ⟨[.dat (.slice tChord) a0, .clos 75 [.ptr 0 0]], [(0, .box [.clos 73 [.ptr 1 0, .ptr 2 0]]), (1, .box [.slc 3]), (2, .box [.dat tI tn]), (3, .arr tI mj)]⟩ = some ⟨[.dat .bool (t74_0 a0 tn mj)], [(0, .box [.clos 73 [.ptr 1 0, .ptr 2 0]]), (1, .box [.slc 3]), (2, .box [.dat tI tn]), (3, .arr tI mj)]⟩
theorem sd74 (hE : EnvOk Tryd.prog En124) (h : R74) : EnvOk Tryd.prog En74 := env_add hE (gen_sound I74 hE mo Tryd.func74 rfl rfl (fun x hx => h x.1 x.2.1 x.2.2.1 hx))
theorem rt74 (a0 : (List Chord)) (tn : Int) (mj : (List Int)) : I74.run ⟨[.dat (.slice tChord) a0, .clos 75 [.ptr 0 0]], [(0, .box [.clos 73 [.ptr 1 0, .ptr 2 0]]), (1, .box [.slc 3]), (2, .box [.dat tI tn]), (3, .arr tI mj)]⟩ = (t74 a0 tn mj).map (fun r => ⟨[.dat .bool r], [(0, .box [.clos 73 [.ptr 1 0, .ptr 2 0]]), (1, .box [.slc 3]), (2, .box [.dat tI tn]), (3, .arr tI mj)]⟩) := by
  rw [f74_run a0 tn mj]
  unfold t74
  simp only [omap_cond, Option.map_some, Option.map_none]
theorem r74 : R74 := by
  intro a0 tn mj h
  obtain ⟨r, hr⟩ := Option.isSome_iff_exists.1 h
  rw [rt74, hr]
  unfold t74_0
  rw [hr]; rfl
def R72 : Prop := ∀ (a0 : (List Chord)), (t72_ok a0) = true → I72.run ⟨[.dat (.slice tChord) a0], []⟩ = some ⟨[.dat tI (t72_0 a0)], []⟩
theorem sd72 (hE : EnvOk Tryd.prog En74) (h : R72) : EnvOk Tryd.prog En72 := env_add hE (gen_sound I72 hE mo Tryd.func72 rfl rfl (fun x hx => h x.1 hx))
theorem rt72 (a0 : (List Chord)) : I72.run ⟨[.dat (.slice tChord) a0], []⟩ = (t72 a0).map (fun r => ⟨[.dat tI r], []⟩) := by
  rw [f72_run a0]
  unfold t72
  simp only [omap_cond, Option.map_some, Option.map_none]
theorem r72 : R72 := by
  intro a0 h
  obtain ⟨r, hr⟩ := Option.isSome_iff_exists.1 h
  rw [rt72, hr]
  unfold t72_0
  rw [hr]; rfl
def R16 : Prop := ∀ (a0 : (List Chord)), (true) = true → I16.run ⟨[.dat (.slice tChord) a0], []⟩ = some ⟨[.dat (.slice tI) ((keysF a0).1), .dat tI ((keysF a0).2)], []⟩
theorem sd16 (hE : EnvOk Tryd.prog En72) (h : R16) : EnvOk Tryd.prog En16 := env_add hE (gen_sound I16 hE mo Tryd.func16 rfl rfl (fun x hx => h x.1 hx))
def R77 : Prop := ∀ (a0 : Int) (a1 : Int) (a2 : Int), (true) = true → I77.run ⟨[.dat tI a0, .dat tI a1, .dat tI a2], []⟩ = some ⟨[.dat .bool (inR a0 a1 a2)], []⟩
theorem sd77 (hE : EnvOk Tryd.prog En16) (h : R77) : EnvOk Tryd.prog En77 := env_add hE (gen_sound I77 hE mo Tryd.func77 rfl rfl (fun x hx => h x.1 x.2.1 x.2.2.1 hx))
def R17 : Prop := ∀ (a0 : (List Int)) (a1 : Int), (decide (a1 ≤ 1000)) = true → I17.run ⟨[.dat (.slice tI) a0, .dat tI a1], []⟩ = some ⟨[.dat tI (notesF a0 a1)], []⟩
theorem sd17 (hE : EnvOk Tryd.prog En77) (h : R17) : EnvOk Tryd.prog En17 := env_add hE (gen_sound I17 hE mo Tryd.func17 rfl rfl (fun x hx => h x.1 x.2.1 hx))
def R18 : Prop := ∀ (a0 : (List Int)), (decide (List.length a0 ≤ 1000)) = true → I18.run ⟨[.dat (.slice tI) a0], []⟩ = some ⟨[.dat tI (firstE a0)], []⟩
theorem sd18 (hE : EnvOk Tryd.prog En17) (h : R18) : EnvOk Tryd.prog En18 := env_add hE (gen_sound I18 hE mo Tryd.func18 rfl rfl (fun x hx => h x.1 hx))
def R19 : Prop := ∀ (a0 : Chord), (true) = true → I19.run ⟨[.dat tChord a0], []⟩ = some ⟨[.dat tI (chordF a0)], []⟩
theorem sd19 (hE : EnvOk Tryd.prog En18) (h : R19) : EnvOk Tryd.prog En19 := env_add hE (gen_sound I19 hE mo Tryd.func19 rfl rfl (fun x hx => h x.1 hx))
def R20 : Prop := ∀ (a0 : Bool) (a1 : Int), (true) = true → I20.run ⟨[.dat .bool a0, .dat tI a1], []⟩ = some ⟨[.dat tI (t20_0 a0 a1)], []⟩
theorem sd20 (hE : EnvOk Tryd.prog En19) (h : R20) : EnvOk Tryd.prog En20 := env_add hE (gen_sound I20 hE mo Tryd.func20 rfl rfl (fun x hx => h x.1 x.2.1 hx))
theorem r20 : R20 := by
  intro a0 a1 _
  rw [f20_run a0 a1]
  unfold t20_0 t20
  cases h2 : a0 with
  | true =>
    simp only [cond_true]
    all_goals rfl
  | false =>
    simp only [cond_false]
    all_goals rfl
def R21 : Prop := ∀ (a0 : (List Chord)) (a1 : Int), (decide (a1 ≤ 1000)) = true → I21.run ⟨[.dat (.slice tChord) a0, .dat tI a1], []⟩ = some ⟨[.dat tI (rowF a0 a1)], []⟩
theorem sd21 (hE : EnvOk Tryd.prog En20) (h : R21) : EnvOk Tryd.prog En21 := env_add hE (gen_sound I21 hE mo Tryd.func21 rfl rfl (fun x hx => h x.1 x.2.1 hx))
def R82 : Prop := ∀ (a0 : (List Int)), (decide (List.length a0 ≤ 12)) = true → I82.run ⟨[.dat (.slice tI) a0], []⟩ = some ⟨[.dat (.slice tI) (classI a0)], []⟩
theorem sd82 (hE : EnvOk Tryd.prog En21) (h : R82) : EnvOk Tryd.prog En82 := env_add hE (gen_sound I82 hE mo Tryd.func82 rfl rfl (fun x hx => h x.1 hx))
def R81 : Prop := ∀ (a0 : Chord) (ns : (List Int)), (t81_ok a0 ns) = true → I81.run ⟨[.dat tChord a0, .ptr 0 0], [(0, .box [.dat (.slice tI) ns])]⟩ = some ⟨[.dat .bool (t81_0 a0 ns)], [(0, .box [.dat (.slice tI) ns])]⟩
theorem sd81 (hE : EnvOk Tryd.prog En82) (h : R81) : EnvOk Tryd.prog En81 := env_add hE (gen_sound I81 hE mo Tryd.func81 rfl rfl (fun x hx => h x.1 x.2.1 hx))
theorem rt81 (a0 : Chord) (ns : (List Int)) : I81.run ⟨[.dat tChord a0, .ptr 0 0], [(0, .box [.dat (.slice tI) ns])]⟩ = (t81 a0 ns).map (fun r => ⟨[.dat .bool r], [(0, .box [.dat (.slice tI) ns])]⟩) := by
  rw [f81_run a0 ns]
  unfold t81
  simp only [omap_cond, Option.map_some, Option.map_none]
theorem r81 : R81 := by
  intro a0 ns h
  obtain ⟨r, hr⟩ := Option.isSome_iff_exists.1 h
  rw [rt81, hr]
  unfold t81_0
  rw [hr]; rfl
def R124a : Prop := ∀ (a0 : (List Chord)) (ns : (List Int)), (decide (List.length a0 ≤ 1000) && decide (List.length ns ≤ 12) && decide (0 < List.length ns) && List.all a0 rightC) = true → I124a.run ⟨[.slc 0, .clos 81 [.ptr 1 0]], [(0, .arr tChord a0), (1, .box [.dat (.slice tI) ns])]⟩ = some ⟨[.dat tI (idxBy (fun o => t81_0 o ns) a0 0)], [(0, .arr tChord (a0)), (1, .box [.dat (.slice tI) (ns)])]⟩
theorem sd124a (hE : EnvOk Tryd.prog En81) (h : R124a) : EnvOk Tryd.prog En124a := env_or hE rfl (gen_sound I124a hE mo Tryd.func124 rfl rfl (fun x hx => h x.1 x.2.1 hx))
def R79 : Prop := ∀ (a0 : (List Chord)) (ns : (List Int)), (decide (List.length a0 ≤ 1000) && decide (List.length ns ≤ 12) && decide (0 < List.length ns) && List.all a0 rightC) = true → I79.run ⟨[.slc 0, .clos 81 [.ptr 1 0]], [(0, .arr tChord a0), (1, .box [.dat (.slice tI) ns])]⟩ = some ⟨[.dat (.slice tChord) (List.filter (fun o => !t81_0 o ns) a0)], [(0, .dead), (1, .box [.dat (.slice tI) (ns)])]⟩
theorem sd79 (hE : EnvOk Tryd.prog En124a) (h : R79) : EnvOk Tryd.prog En79 := env_add hE (gen_sound I79 hE mo Tryd.func79 rfl rfl (fun x hx => h x.1 x.2.1 hx))
def R80 : Prop := (true) = true → I80.run ⟨[], []⟩ = some ⟨[.slc 0], [(0, .arr tChord allC)]⟩
theorem sd80 (hE : EnvOk Tryd.prog En79) (h : R80) : EnvOk Tryd.prog En80 := env_add hE (gen_sound I80 hE mo Tryd.func80 rfl rfl (fun x hx => h  hx))
def R22 : Prop := ∀ (a0 : (List Int)), (decide (List.length a0 ≤ 12) && decide (0 < List.length a0)) = true → I22.run ⟨[.dat (.slice tI) a0], []⟩ = some ⟨[.dat (.slice tChord) (ofL (classI a0) (Int.tmod (minI a0) 12))], []⟩
theorem sd22 (hE : EnvOk Tryd.prog En80) (h : R22) : EnvOk Tryd.prog En22 := env_add hE (gen_sound I22 hE mo Tryd.func22 rfl rfl (fun x hx => h x.1 hx))
def R23 : Prop := ∀ (a0 : Chord) (a1 : Chord), (rightC a0 && rightC a1) = true → I23.run ⟨[.dat tChord a0, .dat tChord a1], []⟩ = some ⟨[.dat tI (sharedN a0 a1)], []⟩
theorem sd23 (hE : EnvOk Tryd.prog En22) (h : R23) : EnvOk Tryd.prog En23 := env_add hE (gen_sound I23 hE mo Tryd.func23 rfl rfl (fun x hx => h x.1 x.2.1 hx))
def R24 : Prop := ∀ (a0 : Chord) (a1 : Int), (t24_ok a0 a1) = true → I24.run ⟨[.dat tChord a0, .dat tI a1], []⟩ = some ⟨[.dat tChord (t24_0 a0 a1)], []⟩
theorem sd24 (hE : EnvOk Tryd.prog En23) (h : R24) : EnvOk Tryd.prog En24 := env_add hE (gen_sound I24 hE mo Tryd.func24 rfl rfl (fun x hx => h x.1 x.2.1 hx))
theorem rt24 (a0 : Chord) (a1 : Int) : I24.run ⟨[.dat tChord a0, .dat tI a1], []⟩ = (t24 a0 a1).map (fun r => ⟨[.dat tChord r], []⟩) := by
  rw [f24_run a0 a1]
  unfold t24
  simp only [omap_cond, Option.map_some, Option.map_none]
theorem r24 : R24 := by
  intro a0 a1 h
  obtain ⟨r, hr⟩ := Option.isSome_iff_exists.1 h
  rw [rt24, hr]
  unfold t24_0
  rw [hr]; rfl
def R84 : Prop := ∀ (a0 : Int) (sc : (List Int)), (t84_ok a0 sc) = true → I84.run ⟨[.dat tI a0, .ptr 0 0], [(0, .box [.slc 1]), (1, .arr tI sc)]⟩ = some ⟨[.dat .bool (t84_0 a0 sc)], [(0, .box [.slc 1]), (1, .arr tI sc)]⟩
theorem sd84 (hE : EnvOk Tryd.prog En24) (h : R84) : EnvOk Tryd.prog En84 := env_add hE (gen_sound I84 hE mo Tryd.func84 rfl rfl (fun x hx => h x.1 x.2.1 hx))
theorem rt84 (a0 : Int) (sc : (List Int)) : I84.run ⟨[.dat tI a0, .ptr 0 0], [(0, .box [.slc 1]), (1, .arr tI sc)]⟩ = (t84 a0 sc).map (fun r => ⟨[.dat .bool r], [(0, .box [.slc 1]), (1, .arr tI sc)]⟩) := by
  rw [f84_run a0 sc]
  unfold t84
  simp only [omap_cond, Option.map_some, Option.map_none]
theorem r84 : R84 := by
  intro a0 sc h
  obtain ⟨r, hr⟩ := Option.isSome_iff_exists.1 h
  rw [rt84, hr]
  unfold t84_0
  rw [hr]; rfl
def R125b : Prop := ∀ (a0 : (List Int)) (sc : (List Int)), (decide (List.length a0 ≤ 1000) && decide (List.length sc ≤ 1000)) = true → I125b.run ⟨[.dat (.slice tI) a0, .clos 84 [.ptr 0 0]], [(0, .box [.slc 1]), (1, .arr tI sc)]⟩ = some ⟨[.dat tI (idxBy (fun o => t84_0 o sc) a0 0)], [(0, .box [.slc 1]), (1, .arr tI (sc))]⟩
theorem sd125b (hE : EnvOk Tryd.prog En84) (h : R125b) : EnvOk Tryd.prog En125b := env_or hE rfl (gen_sound I125b hE mo Tryd.func125 rfl rfl (fun x hx => h x.1 x.2.1 hx))
def R76b : Prop := ∀ (a0 : (List Int)) (sc : (List Int)), (t76b_ok a0 sc) = true → I76b.run ⟨[.dat (.slice tI) a0, .clos 84 [.ptr 0 0]], [(0, .box [.slc 1]), (1, .arr tI sc)]⟩ = some ⟨[.dat .bool (t76b_0 a0 sc)], [(0, .box [.slc 1]), (1, .arr tI sc)]⟩
theorem sd76b (hE : EnvOk Tryd.prog En125b) (h : R76b) : EnvOk Tryd.prog En76b := env_or hE rfl (gen_sound I76b hE mo Tryd.func76 rfl rfl (fun x hx => h x.1 x.2.1 hx))
theorem rt76b (a0 : (List Int)) (sc : (List Int)) : I76b.run ⟨[.dat (.slice tI) a0, .clos 84 [.ptr 0 0]], [(0, .box [.slc 1]), (1, .arr tI sc)]⟩ = (t76b a0 sc).map (fun r => ⟨[.dat .bool r], [(0, .box [.slc 1]), (1, .arr tI sc)]⟩) := by
  rw [f76b_run a0 sc]
  unfold t76b
  simp only [omap_cond, Option.map_some, Option.map_none]
theorem r76b : R76b := by
  intro a0 sc h
  obtain ⟨r, hr⟩ := Option.isSome_iff_exists.1 h
  rw [rt76b, hr]
  unfold t76b_0
  rw [hr]; rfl
def R83 : Prop := ∀ (a0 : Chord) (sc : (List Int)), (t83_ok a0 sc) = true → I83.run ⟨[.dat tChord a0, .ptr 0 0], [(0, .box [.slc 1]), (1, .arr tI sc)]⟩ = some ⟨[.dat .bool (t83_0 a0 sc)], [(0, .box [.slc 1]), (1, .arr tI sc)]⟩
theorem sd83 (hE : EnvOk Tryd.prog En76b) (h : R83) : EnvOk Tryd.prog En83 := env_add hE (gen_sound I83 hE mo Tryd.func83 rfl rfl (fun x hx => h x.1 x.2.1 hx))
theorem rt83 (a0 : Chord) (sc : (List Int)) : I83.run ⟨[.dat tChord a0, .ptr 0 0], [(0, .box [.slc 1]), (1, .arr tI sc)]⟩ = (t83 a0 sc).map (fun r => ⟨[.dat .bool r], [(0, .box [.slc 1]), (1, .arr tI sc)]⟩) := by
  rw [f83_run a0 sc]
  unfold t83
  simp only [omap_cond, Option.map_some, Option.map_none]
theorem r83 : R83 := by
  intro a0 sc h
  obtain ⟨r, hr⟩ := Option.isSome_iff_exists.1 h
  rw [rt83, hr]
  unfold t83_0
  rw [hr]; rfl
def R124b : Prop := ∀ (a0 : (List Chord)) (sc : (List Int)), (decide (List.length a0 ≤ 1000) && decide (List.length sc ≤ 1000) && List.all a0 rightC) = true → I124b.run ⟨[.dat (.slice tChord) a0, .clos 83 [.ptr 0 0]], [(0, .box [.slc 1]), (1, .arr tI sc)]⟩ = some ⟨[.dat tI (idxBy (fun o => t83_0 o sc) a0 0)], [(0, .box [.slc 1]), (1, .arr tI (sc))]⟩
theorem sd124b (hE : EnvOk Tryd.prog En83) (h : R124b) : EnvOk Tryd.prog En124b := env_or hE rfl (gen_sound I124b hE mo Tryd.func124 rfl rfl (fun x hx => h x.1 x.2.1 hx))
def R74a : Prop := ∀ (a0 : (List Chord)) (sc : (List Int)), (t74a_ok a0 sc) = true → I74a.run ⟨[.dat (.slice tChord) a0, .clos 83 [.ptr 0 0]], [(0, .box [.slc 1]), (1, .arr tI sc)]⟩ = some ⟨[.dat .bool (t74a_0 a0 sc)], [(0, .box [.slc 1]), (1, .arr tI sc)]⟩
theorem sd74a (hE : EnvOk Tryd.prog En124b) (h : R74a) : EnvOk Tryd.prog En74a := env_or hE rfl (gen_sound I74a hE mo Tryd.func74 rfl rfl (fun x hx => h x.1 x.2.1 hx))
theorem rt74a (a0 : (List Chord)) (sc : (List Int)) : I74a.run ⟨[.dat (.slice tChord) a0, .clos 83 [.ptr 0 0]], [(0, .box [.slc 1]), (1, .arr tI sc)]⟩ = (t74a a0 sc).map (fun r => ⟨[.dat .bool r], [(0, .box [.slc 1]), (1, .arr tI sc)]⟩) := by
  rw [f74a_run a0 sc]
  unfold t74a
  simp only [omap_cond, Option.map_some, Option.map_none]
theorem r74a : R74a := by
  intro a0 sc h
  obtain ⟨r, hr⟩ := Option.isSome_iff_exists.1 h
  rw [rt74a, hr]
  unfold t74a_0
  rw [hr]; rfl
def R25 : Prop := ∀ (a0 : (List Chord)), (decide (List.length a0 ≤ 1000) && List.all a0 rightC) = true → I25.run ⟨[.dat (.slice tChord) a0], []⟩ = some ⟨[.dat (.slice tI) (keysL a0)], []⟩
theorem sd25 (hE : EnvOk Tryd.prog En74a) (h : R25) : EnvOk Tryd.prog En25 := env_add hE (gen_sound I25 hE mo Tryd.func25 rfl rfl (fun x hx => h x.1 hx))
def R26 : Prop := ∀ (a0 : (List Chord)) (a1 : (List Chord)), (decide (List.length a0 ≤ 1000)) = true → I26.run ⟨[.dat (.slice tChord) a0, .dat (.slice tChord) a1], []⟩ = some ⟨[.dat .bool (a0 == a1)], []⟩
theorem sd26 (hE : EnvOk Tryd.prog En25) (h : R26) : EnvOk Tryd.prog En26 := env_add hE (gen_sound I26 hE mo Tryd.func26 rfl rfl (fun x hx => h x.1 x.2.1 hx))
def R110 : Prop := (true) = true → I110.run ⟨[], []⟩ = some ⟨[.dat (.slice .str) t110_0], []⟩
theorem sd110 (hE : EnvOk Tryd.prog En26) (h : R110) : EnvOk Tryd.prog En110 := env_add hE (gen_sound I110 hE mo Tryd.func110 rfl rfl (fun x hx => h  hx))
theorem r110 : R110 := by
  intro  _
  exact f110_run
def R111 : Prop := (true) = true → I111.run ⟨[], []⟩ = some ⟨[.dat (.slice .str) t111_0], []⟩
theorem sd111 (hE : EnvOk Tryd.prog En110) (h : R111) : EnvOk Tryd.prog En111 := env_add hE (gen_sound I111 hE mo Tryd.func111 rfl rfl (fun x hx => h  hx))
theorem r111 : R111 := by
  intro  _
  exact f111_run
def R112 : Prop := Sound Tryd.prog En0.gl 112 S112 ∧ Enters Tryd.prog 112
theorem sd112 (hE : EnvOk Tryd.prog En111) (h : R112) : EnvOk Tryd.prog En112 := env_add hE (h)
def R56 : Prop := ∀ (a0 : Chord), (t56_ok a0) = true → I56.run ⟨[.dat tChord a0], []⟩ = some ⟨[.dat .str (t56_0 a0), .dat tI (t56_1 a0)], []⟩
theorem sd56 (hE : EnvOk Tryd.prog En112) (h : R56) : EnvOk Tryd.prog En56 := env_add hE (gen_sound I56 hE mo Tryd.func56 rfl rfl (fun x hx => h x.1 hx))
theorem rt56 (a0 : Chord) : I56.run ⟨[.dat tChord a0], []⟩ = (t56 a0).map (fun r => ⟨[.dat .str r.1, .dat tI r.2], []⟩) := by
  rw [f56_run a0]
  unfold t56
  simp only [omap_cond, Option.map_some, Option.map_none]
theorem r56 : R56 := by
  intro a0 h
  obtain ⟨r, hr⟩ := Option.isSome_iff_exists.1 h
  rw [rt56, hr]
  unfold t56_0 t56_1
  rw [hr]; rfl
def R28 : Prop := (true) = true → I28.run ⟨[], []⟩ = some ⟨[.dat .bool true], []⟩
theorem sd28 (hE : EnvOk Tryd.prog En56) (h : R28) : EnvOk Tryd.prog En28 := env_add hE (gen_sound I28 hE mo Tryd.func28 rfl rfl (fun x hx => h  hx))
def R3 : Prop := ∀ (a0 : (List Int)), (true) = true → I3.run ⟨[.dat (.slice tI) a0], []⟩ = some ⟨[.dat .bool true], []⟩
theorem law (hE : EnvOk Tryd.prog En28) (h : R3) : Sound Tryd.prog En28.gl 3 S3 := And.left (b := Enters Tryd.prog 3) (gen_sound I3 hE mo Tryd.func3 rfl rfl (fun x hx => h x.1 hx))
end Go.Ev.H

set_option linter.unusedVariables false
set_option linter.unusedSimpArgs false
namespace Go.Ev.H
open Go Go.Ev Go.Proofs
/-! ### small things (rw [condT (dT (by first | omega | (simp only [List.length_append, List.length_cons, List.length_nil, List.length_set, List.length_take, List.length_drop, List.length_map]; omega) | (simp; omega)))], repeat (rw [condT (dT (by first | omega | (simp only [List.length_append, List.length_cons, List.length_nil, List.length_set, List.length_take, List.length_drop, List.length_map]; omega) | (simp; omega)))]), st: words that tmpl2.py writes out) -/
theorem c12 {α : Type} {a b : α} : cond ((12 : Int) == 0) a b = b := rfl
theorem range1 (i m : Nat) : List.range' i (m + 1) = i :: List.range' (i + 1) m := by rw [List.range'_succ]

theorem r120 : R120 := by
  intro a0 a1 _
  rw [f120_run]
  unfold below
  by_cases h1 : a1 < 1
  · simp [h1]
  · have h0 : (a1 == 0) = false := by simp; omega
    by_cases h2 : a0.tmod a1 < 0 <;> simp [h1, h0, h2]

theorem atOk_iff {k a : Int} : atOk k a = true ↔ 0 ≤ a ∧ a + k ≤ 1099511627776 := by simp [atOk]

theorem nextAt_eq {k a : Int} (h : atOk k a = true) (hk : 0 ≤ k) : nextAt a = a + 1 := by
  rw [atOk_iff] at h
  unfold nextAt
  exact wrap_in (by omega) (by omega)

theorem r63 : R63 := by
  intro a0 L at_ h
  rw [f63_run]
  have h1 := atOk_iff.1 h
  have e1 : wrap .i64 (at_ + 1) = at_ + 1 := wrap_in (by omega) (by omega)
  have e2 : wrap .i64 (at_ + 1 - 1) = at_ := by rw [wrap_in (by omega) (by omega)]; omega
  unfold next rawNext nextAt
  by_cases h0 : L = []
  · subst h0; simp
  · have hl : 0 < L.length := List.length_pos_iff.2 h0
    have hne : ((L.length : Int) == 0) = false := by simp; omega
    have ht0 : decide ((0 : Int) ≤ Int.tmod at_ L.length) = true := by simp; exact Int.tmod_nonneg _ h1.1
    have ht1 : decide (Int.tmod at_ L.length < L.length) = true := by simp; exact Int.tmod_lt_of_pos _ (by omega)
    simp only [hne, cond_false, e1, e2, ht0, ht1, cond_true]

theorem below_range {x n : Int} (h1 : 1 ≤ n) (h2 : n ≤ 4611686018427387904) : 0 ≤ below x n ∧ below x n < n := by
  unfold below
  have hlt : decide (n < 1) = false := by simp; omega
  have h3 := Int.tmod_lt_of_pos x (show 0 < n by omega)
  have h4 : -n < x.tmod n := Int.lt_tmod_of_pos x (by omega)
  rw [hlt, cond_false]
  by_cases h : x.tmod n < 0
  · rw [condT (by simpa using h), wrap_in (by omega) (by omega)]; omega
  · rw [condF (by simpa using h)]; omega

theorem next_range (L : List Int) (at_ : Int) {n : Int} (h1 : 1 ≤ n) (h2 : n ≤ 4611686018427387904) : 0 ≤ next L at_ n ∧ next L at_ n < n := below_range h1 h2

theorem r31 : R31 := by
  intro a0 L at_ h
  rw [f31_run, h]; rfl

theorem r10 : R10 := by
  intro a0 L at_ h
  simp only [Bool.and_eq_true, decide_eq_true_eq] at h
  obtain ⟨⟨h1, h2⟩, h3⟩ := h
  have hr := next_range L at_ (n := (a0.length : Int)) (by omega) (by omega)
  rw [f10_run, h1]
  have q1 : decide ((0 : Int) ≤ next L at_ a0.length) = true := by simpa using hr.1
  have q2 : decide (next L at_ a0.length < a0.length) = true := by simpa using hr.2
  rw [q1, q2]; rfl

theorem r12 : R12 := by
  intro a0 a1 L at_ h
  rw [f12_run, h]
  unfold rangeS rangeAt
  by_cases hc : a1 < a0 <;> simp [hc]

theorem r62 : R62 := by
  intro a0 a1 L at_ h
  have h1 := atOk_iff.1 h
  rw [f62_run]
  have q1 : atOk 1 at_ = true := atOk_iff.2 (by omega)
  have e1 := nextAt_eq q1 (by omega)
  have q2 : atOk 1 (nextAt at_) = true := atOk_iff.2 (by omega)
  rw [q1, q2]
  unfold oddS
  cases next L at_ 12 == 0 <;> rfl

theorem r71 : R71 := by
  intro a0 a1 a2 _
  rw [f71_run]
  unfold outside
  cases decide (a0 < a1) <;> rfl

theorem r77 : R77 := by
  intro a0 a1 a2 _
  rw [f77_run]
  unfold inR
  cases decide (a1 ≤ a0) <;> rfl

theorem atOk_t {k a : Int} (h1 : 0 ≤ a) (h2 : a + k ≤ 1099511627776) : atOk k a = true := atOk_iff.2 ⟨h1, h2⟩
theorem nextAt_s {a : Int} (h1 : 0 ≤ a) (h2 : a + 1 ≤ 1099511627776) : nextAt a = a + 1 := wrap_in (by omega) (by omega)
theorem rangeAt_s {a lo hi : Int} (h0 : lo ≤ hi) (h1 : 0 ≤ a) (h2 : a + 1 ≤ 1099511627776) : rangeAt a lo hi = a + 1 := by
  unfold rangeAt
  rw [condF (by simp; omega)]; exact nextAt_s h1 h2
theorem rangeS_in (L : List Int) (a : Int) {lo hi : Int} (h : lo ≤ hi) (h1 : -1000000000 ≤ lo) (h2 : hi ≤ 1000000000) : lo ≤ rangeS L a lo hi ∧ rangeS L a lo hi ≤ hi := by
  unfold rangeS
  rw [condF (by simp; omega), wrap_in (x := hi - lo) (by omega) (by omega), wrap_in (x := hi - lo + 1) (by omega) (by omega)]
  have := next_range L a (n := hi - lo + 1) (by omega) (by omega)
  rw [wrap_in (by omega) (by omega)]; omega
theorem oddAt (L : List Int) {a lo hi : Int} (h0 : lo ≤ hi) (h1 : 0 ≤ a) (h2 : a + 2 ≤ 1099511627776) : (oddS L a lo hi).1 = a + 2 := by
  unfold oddS
  cases next L a 12 == 0
  · simp only [cond_false]; rw [nextAt_s h1 (by omega), rangeAt_s h0 (by omega) (by omega)]; omega
  · simp only [cond_true]; rw [nextAt_s h1 (by omega), nextAt_s (by omega) (by omega)]; omega
theorem len_t {n m : Nat} (h : n ≤ m) : decide (n ≤ m) = true := dT h
theorem atOk_and {k a : Int} {p q : Bool} (h1 : 0 ≤ a) (h2 : a + k ≤ 1099511627776) (hp : p = true) (hq : q = true) : (atOk k a && p && q) = true := by
  rw [atOk_t h1 h2, hp, hq]; rfl
theorem bself (n : Int) : (n == n) = true := by simp


theorem idx_run (a : List Int) (x : Int) (ha : a.length ≤ 1000000) : ∀ (k i : Nat), i + k = a.length → f68h0 a x a.length i = some ⟨[.dat tI (idxGo x (a.drop i) i)], []⟩ := by
  intro k
  induction k with
  | zero =>
    intro i hi
    rw [f68h0_eq, dlt_not (by omega), dnil (by omega)]; rfl
  | succ k ih =>
    intro i hi
    have hlt : i < a.length := by omega
    rw [f68h0_eq, dlt hlt, dle0, getN _ _ _ hlt, dcons hlt, wsucc (by omega), ih (i + 1) (by omega)]
    simp only [cond_true, idxGo]
    cases x == a[i] <;> rfl

theorem r68 : R68 := by
  intro a0 a1 h
  rw [f68_run]
  exact idx_run a0 a1 (by simpa using h) a0.length 0 (by omega)

theorem r70 : R70 := by
  intro a0 a1 h
  rw [f70_run, h]; rfl

theorem eqi_run (a b : List Int) (ha : a.length ≤ 1000000) (hl : a.length = b.length) : ∀ (k i : Nat), i + k = a.length →
    f27h0 a b a.length i = some ⟨[.dat .bool (a.drop i == b.drop i)], []⟩ := by
  intro k
  induction k with
  | zero =>
    intro i hi
    rw [f27h0_eq, dlt_not (by omega), dnil (by omega), dnil (by omega)]; rfl
  | succ k ih =>
    intro i hi
    have h1 : i < a.length := by omega
    have h2 : i < b.length := by omega
    rw [f27h0_eq, dlt h1, dle0, dlt h2, getN _ _ _ h1, getN _ _ _ h2, dcons h1, dcons h2, wsucc (by omega), ih (i + 1) (by omega)]
    simp only [cond_true, List.cons_beq_cons]
    cases hq : a[i] != b[i]
    · have : (a[i] == b[i]) = true := by simpa using hq
      rw [this]; rfl
    · have : (a[i] == b[i]) = false := by simpa using hq
      rw [this]; rfl

theorem r27 : R27 := by
  intro a0 a1 h
  rw [f27_run]
  unfold equalI
  by_cases hl : a0.length = a1.length
  · have q : ((a0.length : Int) != (a1.length : Int)) = false := by simp [hl]
    rw [q]
    exact eqi_run a0 a1 (by simpa using h) hl a0.length 0 (by omega)
  · have q : ((a0.length : Int) != (a1.length : Int)) = true := by simp; omega
    have q2 : (a0 == a1) = false := by
      cases hc : a0 == a1
      · rfl
      · rw [beq_iff_eq.1 hc] at hl; exact absurd rfl hl
    rw [q, q2]; rfl


/-! ### pure laws of chords -/
theorem mem_allC {c : Chord} (h : rightC c = true) : c ∈ allC := by
  obtain ⟨r, k, t⟩ := c
  unfold rightC at h
  simp only [Bool.and_eq_true, decide_eq_true_eq] at h
  obtain ⟨⟨⟨⟨⟨h1, h2⟩, h3⟩, h4⟩, h5⟩, h6⟩ := h
  unfold allC
  rw [List.mem_flatMap]
  refine ⟨r.toNat, List.mem_range.2 (by omega), ?_⟩
  rw [List.mem_flatMap]
  refine ⟨(k - 1).toNat, List.mem_range.2 (by omega), ?_⟩
  have e : (((k - 1).toNat + 1 : Nat) : Int) = k := by omega
  rw [e, List.mem_map]
  exact ⟨t.toNat, List.mem_range.2 (by omega), by rw [Int.toNat_of_nonneg h1, Int.toNat_of_nonneg h5]⟩
theorem right_all : ∀ c ∈ allC, rightC c = true := by decide +kernel
theorem tones_len : ∀ c ∈ allC, (tonesR c).length ≤ 4 ∧ 0 < (tonesR c).length := by decide +kernel
theorem tones_in : ∀ c ∈ allC, ∀ t ∈ tonesR c, 0 ≤ t ∧ t ≤ 11 := by decide +kernel
theorem class_turn : ∀ c ∈ allC, classI (tonesR c) = classI (tonesR (c.1, c.2.1, 0)) := by decide +kernel
def headC (c : Chord) : Int := (tonesR c).getD 0 0
theorem turns_of : ∀ r ∈ List.range 12, ∀ k ∈ List.range 7, ∀ low ∈ classI (tonesR ((r : Int), ((k + 1 : Nat) : Int), 0)),
    (((List.range (kindT (k + 1 : Nat)).length).map fun (t : Nat) => ((r : Int), ((k + 1 : Nat) : Int), (t : Int))).filter fun c => headC c == low) = [((r : Int), ((k + 1 : Nat) : Int), indexI (tonesR ((r : Int), ((k + 1 : Nat) : Int), 0)) low)] := by decide +kernel
theorem keys_of : ∀ c ∈ allC, ∀ k ∈ List.range 12, ((tonesR c).any fun t => !containsI [0, 2, 4, 5, 7, 9, 11] (((t - k) + 12).tmod 12)) = ((tonesR c).any fun t => !containsI ([0, 2, 4, 5, 7, 9, 11].map fun n => ((k : Int) + n).tmod 12) t) := by decide +kernel
theorem tonesB_eq : ∀ c ∈ allC, ((kindT c.2.1).map fun n => (c.1 + n).tmod 12).drop c.2.2.toNat ++ ((kindT c.2.1).map fun n => (c.1 + n).tmod 12).take c.2.2.toNat = tonesR c := by decide +kernel
theorem kindT_in : ∀ k ∈ List.range 8, (kindT (k : Int)).length ≤ 4 ∧ ∀ x ∈ kindT (k : Int), 0 ≤ x ∧ x ≤ 11 := by decide +kernel

theorem swapAt_len (l : List Int) (j : Nat) : (swapAt l j).length = l.length := by simp [swapAt]
theorem sinkGo_len : ∀ (j : Nat) (l : List Int), (sinkGo j l).length = l.length
  | 0, l => rfl
  | j + 1, l => by
    unfold sinkGo
    cases decide (l.getD (j + 1) 0 < l.getD j 0) with
    | true => rw [cond_true, sinkGo_len j, swapAt_len]
    | false => rfl
theorem sortGo_len : ∀ (m i : Nat) (l : List Int), (sortGo m i l).length = l.length
  | 0, i, l => rfl
  | m + 1, i, l => by unfold sortGo; rw [sortGo_len m, sinkGo_len]
theorem sortI_len (l : List Int) : (sortI l).length = l.length := sortGo_len _ _ _
theorem ddG_len : ∀ (a : Int) (l : List Int), (ddG a l).length ≤ l.length
  | _, [] => Nat.le_refl _
  | a, b :: l => by
    unfold ddG
    have := ddG_len b l
    cases b == a <;> simp only [cond_true, cond_false, List.length_cons] <;> omega
theorem compI_len (l : List Int) : (compI l).length ≤ l.length := by
  cases l with
  | nil => exact Nat.le_refl _
  | cons a l => have := ddG_len a l; simp only [compI, List.length_cons]; omega
theorem classI_len (l : List Int) : (classI l).length ≤ l.length := by
  unfold classI
  refine Nat.le_trans (compI_len _) ?_
  rw [sortI_len, List.length_map]; exact Nat.le_refl _

theorem swapAt_mem {l : List Int} {j : Nat} (h : j + 1 < l.length) {x : Int} (hx : x ∈ l) : x ∈ swapAt l j := by
  have hj : j < l.length := by omega
  obtain ⟨k, hk, rfl⟩ := List.mem_iff_getElem.1 hx
  unfold swapAt
  rw [List.getD_eq_getElem?_getD, List.getD_eq_getElem?_getD, List.getElem?_eq_getElem hj, List.getElem?_eq_getElem h, Option.getD_some, Option.getD_some]
  by_cases h1 : k = j
  · subst h1
    exact List.mem_iff_getElem.2 ⟨k + 1, by simpa using h, by rw [List.getElem_set_ne (by omega), List.getElem_set_self]⟩
  · by_cases h2 : k = j + 1
    · subst h2
      exact List.mem_iff_getElem.2 ⟨j, by simpa using hj, by rw [List.getElem_set_self]⟩
    · exact List.mem_iff_getElem.2 ⟨k, by simpa using hk, by rw [List.getElem_set_ne (by omega), List.getElem_set_ne (by omega)]⟩
theorem sinkGo_mem {x : Int} : ∀ (j : Nat) (l : List Int), j < l.length → x ∈ l → x ∈ sinkGo j l
  | 0, l, _, h => h
  | j + 1, l, hj, h => by
    unfold sinkGo
    cases decide (l.getD (j + 1) 0 < l.getD j 0) with
    | true => exact sinkGo_mem j _ (by rw [swapAt_len]; omega) (swapAt_mem hj h)
    | false => exact h
theorem sortGo_mem {x : Int} : ∀ (m i : Nat) (l : List Int), i + m ≤ l.length → x ∈ l → x ∈ sortGo m i l
  | 0, i, l, _, h => h
  | m + 1, i, l, hi, h => sortGo_mem m (i + 1) _ (by rw [sinkGo_len]; omega) (sinkGo_mem i l (by omega) h)
theorem sortI_mem {x : Int} {l : List Int} (h : x ∈ l) : x ∈ sortI l := by
  have : 0 < l.length := List.length_pos_of_mem h
  exact sortGo_mem _ _ _ (by omega) h
theorem ddG_mem {x : Int} : ∀ (a : Int) (l : List Int), x ∈ l → x = a ∨ x ∈ ddG a l
  | _, [], h => by cases h
  | a, b :: l, h => by
    unfold ddG
    by_cases e : b = a
    · subst e
      rw [condT (by simp)]
      rcases List.mem_cons.1 h with rfl | h
      · exact Or.inl rfl
      · exact ddG_mem _ l h
    · rw [condF (by simpa using e)]
      rcases List.mem_cons.1 h with rfl | h
      · exact Or.inr (List.mem_cons_self ..)
      · rcases ddG_mem b l h with rfl | h
        · exact Or.inr (List.mem_cons_self ..)
        · exact Or.inr (List.mem_cons_of_mem _ h)
theorem compI_mem {x : Int} {l : List Int} (h : x ∈ l) : x ∈ compI l := by
  cases l with
  | nil => cases h
  | cons a l =>
    unfold compI
    rcases List.mem_cons.1 h with rfl | h
    · exact List.mem_cons_self ..
    · rcases ddG_mem a l h with rfl | h
      · exact List.mem_cons_self ..
      · exact List.mem_cons_of_mem _ h
theorem classI_mem {x : Int} {l : List Int} (h : x ∈ l) : x.tmod 12 ∈ classI l := compI_mem (sortI_mem (List.mem_map_of_mem h))
theorem minGo_mem : ∀ (l : List Int) (a : Int), l.foldl (fun m x => if x < m then x else m) a ∈ a :: l
  | [], a => List.mem_cons_self ..
  | x :: l, a => by
    have := minGo_mem l (if x < a then x else a)
    rw [List.foldl_cons]
    rcases List.mem_cons.1 this with h | h
    · rw [h]
      split
      · exact List.mem_cons_of_mem _ (List.mem_cons_self ..)
      · exact List.mem_cons_self ..
    · exact List.mem_cons_of_mem _ (List.mem_cons_of_mem _ h)
theorem minI_mem {l : List Int} (h : l ≠ []) : minI l ∈ l := by
  cases l with
  | nil => exact absurd rfl h
  | cons a l => exact minGo_mem l a

def ofP (all : List Int) (low : Int) (c : Chord) : Bool := !(!(classI (tonesR c) == all) || !(headC c == low))
theorem flatMap_congr' {α β : Type} {f g : α → List β} : ∀ (l : List α), (∀ x ∈ l, f x = g x) → l.flatMap f = l.flatMap g
  | [], _ => rfl
  | x :: l, h => by rw [List.flatMap_cons, List.flatMap_cons, h x (List.mem_cons_self ..), flatMap_congr' l (fun y hy => h y (List.mem_cons_of_mem _ hy))]
theorem of_eq {notes : List Int} (hn : notes ≠ []) : allC.filter (ofP (classI notes) ((minI notes).tmod 12)) = ofL (classI notes) ((minI notes).tmod 12) := by
  have hm := classI_mem (minI_mem hn)
  generalize classI notes = all at hm ⊢
  generalize (minI notes).tmod 12 = low at hm ⊢
  unfold allC ofL
  rw [List.filter_flatMap]
  refine flatMap_congr' _ fun r hr => ?_
  rw [List.filter_flatMap]
  refine flatMap_congr' _ fun k hk => ?_
  have hr' := List.mem_range.1 hr
  have hk' := List.mem_range.1 hk
  have hc : ∀ t ∈ List.range (kindT (k + 1 : Nat)).length, ((r : Int), ((k + 1 : Nat) : Int), (t : Int)) ∈ allC := fun t ht => by
    have := List.mem_range.1 ht
    refine mem_allC ?_
    unfold rightC
    simp only [Bool.and_eq_true, decide_eq_true_eq]
    omega
  unfold ofOne
  by_cases he : classI (tonesR ((r : Int), ((k + 1 : Nat) : Int), 0)) = all
  · rw [condT (by rw [he]; exact beq_self_eq_true _)]
    rw [← turns_of r hr k hk low (by rw [he]; exact hm)]
    refine List.filter_congr fun c h => ?_
    obtain ⟨t, ht, rfl⟩ := List.mem_map.1 h
    have h2 := class_turn _ (hc t ht)
    unfold ofP
    rw [h2, he]
    simp
  · rw [condF (by rw [beq_eq_false_iff_ne]; exact he)]
    rw [List.filter_eq_nil_iff]
    intro c h
    obtain ⟨t, ht, rfl⟩ := List.mem_map.1 h
    have h2 := class_turn _ (hc t ht)
    unfold ofP
    rw [h2]
    have : (classI (tonesR ((r : Int), ((k + 1 : Nat) : Int), 0)) == all) = false := by rw [beq_eq_false_iff_ne]; exact he
    rw [this]
    simp

end Go.Ev.H

set_option linter.unusedVariables false
set_option linter.unusedSimpArgs false
namespace Go.Ev.H
open Go Go.Ev Go.Proofs
theorem r119 : R119 := by
  intro a0 h
  simp only [Bool.and_eq_true, decide_eq_true_eq] at h
  rw [f119_run, condT (dT h.1), condT (dT (by show a0 < 8; omega)), condT (dT (by show a0.toNat < 8; omega))]
  rfl
theorem r78 : R78 := by
  intro a0 h
  simp only [Bool.and_eq_true, decide_eq_true_eq] at h
  rw [f78_run, condT (dT h.1), condT (dT (by show a0 < 8; omega)), condT (dT (by show a0.toNat < 8; omega))]
  rfl

theorem kind_facts {k : Int} (h0 : 0 ≤ k) (h1 : k ≤ 7) : (kindT k).length ≤ 4 ∧ ∀ x ∈ kindT k, 0 ≤ x ∧ x ≤ 11 := by
  have := kindT_in k.toNat (List.mem_range.2 (by omega))
  rwa [Int.toNat_of_nonneg h0] at this

theorem right_iff {c : Chord} : rightC c = true ↔ 0 ≤ c.1 ∧ c.1 ≤ 11 ∧ 1 ≤ c.2.1 ∧ c.2.1 ≤ 7 ∧ 0 ≤ c.2.2 ∧ c.2.2 < ((kindT c.2.1).length : Int) := by
  unfold rightC; simp only [Bool.and_eq_true, decide_eq_true_eq, and_assoc]

theorem go67 (l : List Int) (h4 : l.length ≤ 4) (hx : ∀ x ∈ l, 0 ≤ x ∧ x ≤ 11) (r k : Int) (t : Nat) (hr : 0 ≤ r ∧ r ≤ 11) (ht : t < 4) : ∀ (m i : Nat) (out : List Int), i + m = l.length → out.length = i →
    f67h0 l l.length i r k t out = some ⟨[.dat (.slice tI) (out ++ ((List.range' i m).map fun j => (r + l.getD ((j + t) % l.length) 0) % 12))], []⟩ := by
  intro m
  induction m with
  | zero => intro i out hi ho; rw [f67h0_eq, dlt_not (by omega)]; simp
  | succ m ih =>
    intro i out hi ho
    have hlt : (i + t) % l.length < l.length := Nat.mod_lt _ (by omega)
    have hy := hx _ (List.getElem_mem hlt)
    have e1 : wrap .i64 ((i : Int) + (t : Int)) = ((i + t : Nat) : Int) := by rw [wrap_in (by omega) (by omega)]; omega
    have e2 : Int.tmod ((i + t : Nat) : Int) (l.length : Int) = (((i + t) % l.length : Nat) : Int) := (Int.ofNat_tmod _ _).symm
    have hne : (((l.length : Nat) : Int) == 0) = false := by rw [beq_eq_false_iff_ne]; omega
    rw [f67h0_eq, condT (dlt (by omega)), condF hne, e1, e2]
    rw [condT (dT (by first | omega | (simp only [List.length_append, List.length_cons, List.length_nil, List.length_set, List.length_take, List.length_drop, List.length_map]; omega) | (simp; omega)))]
    rw [condT (dT (by first | omega | (simp only [List.length_append, List.length_cons, List.length_nil, List.length_set, List.length_take, List.length_drop, List.length_map]; omega) | (simp; omega)))]
    rw [getN _ _ _ hlt, wrap_in (x := r + l[(i + t) % l.length]) (by omega) (by omega), c12, condT (dT (by simp; omega)), wsucc (by omega), ih (i + 1) _ (by omega) (by simp; omega), range1]
    rw [Int.tmod_eq_emod_of_nonneg (by omega)]
    simp [List.getD_eq_getElem?_getD, List.getElem?_eq_getElem hlt]

theorem r67 : R67 := by
  intro a0 h
  obtain ⟨h1, h2, h3, h4, h5, h6⟩ := right_iff.1 h
  obtain ⟨k1, k2⟩ := kind_facts (k := a0.2.1) (by omega) h4
  rw [f67_run, condT (by simp; omega)]
  have e : a0.2.2 = ((a0.2.2.toNat : Nat) : Int) := by omega
  rw [e]
  have := go67 (kindT a0.2.1) k1 k2 a0.1 a0.2.1 a0.2.2.toNat ⟨h1, h2⟩ (by omega) (kindT a0.2.1).length 0 [] (by omega) rfl
  rw [show (0 : Int) = ((0 : Nat) : Int) from rfl, this]
  unfold tonesR
  rw [List.range_eq_range']
  rfl

theorem go58 (l : List Int) (h4 : l.length ≤ 4) (hx : ∀ x ∈ l, 0 ≤ x ∧ x ≤ 11) (r k : Int) (t : Nat) (hr : 0 ≤ r ∧ r ≤ 11) (ht : t < l.length) : ∀ (m i : Nat) (out : List Int), i + m = l.length → out.length = i →
    f58h0 l l.length i r k t out = some ⟨[.dat (.slice tI) ((out ++ (l.drop i).map fun n => (r + n).tmod 12).drop t ++ (out ++ (l.drop i).map fun n => (r + n).tmod 12).take t)], []⟩ := by
  intro m
  induction m with
  | zero =>
    intro i out hi ho
    rw [f58h0_eq, dlt_not (by omega), cond_false, dnil (xs := l) (i := i) (by omega)]
    repeat (rw [condT (dT (by first | omega | (simp only [List.length_append, List.length_cons, List.length_nil, List.length_set, List.length_take, List.length_drop, List.length_map]; omega) | (simp; omega)))])
    simp only [List.map_nil, List.append_nil, Int.toNat_natCast, Int.toNat_zero, List.drop_zero]
    cases hh : List.take t out with
    | nil => simp
    | cons x y => rfl
  | succ m ih =>
    intro i out hi ho
    have hlt : i < l.length := by omega
    have hy := hx _ (List.getElem_mem hlt)
    rw [f58h0_eq, condT (dlt (by omega))]
    rw [condT (dT (by first | omega | (simp only [List.length_append, List.length_cons, List.length_nil, List.length_set, List.length_take, List.length_drop, List.length_map]; omega) | (simp; omega)))]
    rw [condT (dT (by first | omega | (simp only [List.length_append, List.length_cons, List.length_nil, List.length_set, List.length_take, List.length_drop, List.length_map]; omega) | (simp; omega)))]
    rw [getN _ _ _ hlt, wrap_in (x := r + l[i]) (by omega) (by omega), c12, condT (dT (by simp; omega)), wsucc (by omega), ih (i + 1) _ (by omega) (by simp; omega), dcons hlt]
    rw [List.append_assoc, List.map_cons]; rfl

theorem r58 : R58 := by
  intro a0 h
  obtain ⟨h1, h2, h3, h4, h5, h6⟩ := right_iff.1 h
  obtain ⟨k1, k2⟩ := kind_facts (k := a0.2.1) (by omega) h4
  have hB := tonesB_eq a0 (mem_allC h)
  rw [f58_run, condT (by simp; omega)]
  have e : a0.2.2 = ((a0.2.2.toNat : Nat) : Int) := by omega
  rw [e]
  have := go58 (kindT a0.2.1) k1 k2 a0.1 a0.2.1 a0.2.2.toNat ⟨h1, h2⟩ (by omega) (kindT a0.2.1).length 0 [] (by omega) rfl
  rw [show (0 : Int) = ((0 : Nat) : Int) from rfl, this]
  simp only [List.nil_append, List.drop_zero]
  rw [hB]

theorem less_eq (x y : Int) : t183_0 x y = decide (x < y) := by
  unfold t183_0 t183
  simp [t160_0, t160]

theorem sink177 (n i : Int) : ∀ (j : Nat) (l : List Int), j < l.length → l.length ≤ 12 →
    f177h2 0 n i j l = f177h0 0 n (wrap .i64 (i + 1)) (sinkGo j l)
  | 0, l, hj, hl => by rw [f177h2_eq, condF (by simp)]; rfl
  | j + 1, l, hj, hl => by
    have e : wrap .i64 (((j + 1 : Nat) : Int) - 1) = ((j : Nat) : Int) := by rw [wrap_in (by omega) (by omega)]; omega
    rw [f177h2_eq, condT (dT (by omega)), e]
    repeat (rw [condT (dT (by first | omega | (simp only [List.length_append, List.length_cons, List.length_nil, List.length_set, List.length_take, List.length_drop, List.length_map]; omega) | (simp; omega)))])
    rw [less_eq, sinkGo]
    simp only [Int.toNat_natCast]
    cases h : decide (l.getD (j + 1) (Tc.dflt tI) < l.getD j (Tc.dflt tI)) with
    | false =>
      rw [cond_false]
      have h' : decide (l.getD (j + 1) 0 < l.getD j 0) = false := h
      rw [h', cond_false]
    | true =>
      rw [cond_true]
      have h' : decide (l.getD (j + 1) 0 < l.getD j 0) = true := h
      rw [h', cond_true]
      repeat (rw [condT (dT (by first | omega | (simp only [List.length_append, List.length_cons, List.length_nil, List.length_set, List.length_take, List.length_drop, List.length_map]; omega) | (simp; omega)))])
      exact sink177 n i j (swapAt l j) (by rw [swapAt_len]; omega) (by rw [swapAt_len]; omega)

theorem go177 : ∀ (m i : Nat) (l : List Int), i + m = l.length → l.length ≤ 12 →
    f177h0 0 l.length i l = some ⟨[], [(0, .arr tI (sortGo m i l))]⟩
  | 0, i, l, hi, hl => by rw [f177h0_eq, dlt_not (by omega)]; rfl
  | m + 1, i, l, hi, hl => by
    rw [f177h0_eq, condT (dlt (by omega)), sink177 _ _ i l (by omega) hl, wsucc (by omega)]
    have := go177 m (i + 1) (sinkGo i l) (by rw [sinkGo_len]; omega) (by rw [sinkGo_len]; omega)
    rw [sinkGo_len] at this
    exact this

theorem r177 : R177 := by
  intro a b a0 h
  simp only [Bool.and_eq_true, decide_eq_true_eq, beq_iff_eq] at h
  obtain ⟨⟨h1, rfl⟩, rfl⟩ := h
  rw [f177_run]
  have e : wrap .i64 ((0 : Int) + 1) = ((1 : Nat) : Int) := rfl
  rw [e]
  unfold sortI
  by_cases h0 : a0.length = 0
  · have : a0 = [] := List.length_eq_zero_iff.1 h0
    subst this
    rw [f177h0_eq, condF (by simp)]
    rfl
  · exact go177 (a0.length - 1) 1 a0 (by omega) h1

theorem r148 : R148 := by
  intro a b lim a0 h
  have h' := h
  simp only [Bool.and_eq_true, decide_eq_true_eq, beq_iff_eq] at h
  obtain ⟨⟨h1, rfl⟩, rfl⟩ := h
  rw [f148_run, f148h0_eq, wrap_in (by omega) (by omega), condT (dT (by omega)), condT h']

theorem len_small : ∀ n ∈ List.range 13, t132_ok (wrap .u64 ((n : Nat) : Int)) = true := by decide +kernel
theorem r122 : R122 := by
  intro a0 h
  simp only [decide_eq_true_eq] at h
  rw [f122_run, condT (len_small a0.length (List.mem_range.2 (by omega))), condT (by simp; exact h)]

end Go.Ev.H

set_option linter.unusedVariables false
set_option linter.unusedSimpArgs false
namespace Go.Ev.H
open Go Go.Ev Go.Proofs
theorem beq_chord (x y : Chord) : Tc.beq tChord x y = (x == y) := rfl

theorem go26 (a b : List Chord) (hl : a.length = b.length) (hb : a.length ≤ 1000) : ∀ (m i : Nat), i + m = a.length → f26h0 a b a.length i = some ⟨[.dat .bool (a.drop i == b.drop i)], []⟩ := by
  intro m
  induction m with
  | zero => intro i hi; rw [f26h0_eq, dlt_not (by omega), dnil (xs := a) (by omega), dnil (xs := b) (by omega)]; rfl
  | succ m ih =>
    intro i hi
    have hlt : i < a.length := by omega
    have hlt' : i < b.length := by omega
    rw [f26h0_eq, dlt hlt, dlt hlt', dle0, getN _ _ _ hlt, getN _ _ _ hlt', wsucc (by omega), ih (i + 1) (by omega), dcons hlt, dcons hlt', beq_chord, List.cons_beq_cons]
    simp only [cond_true]
    cases a[i] == b[i] <;> rfl

theorem r26 : R26 := by
  intro a0 a1 h
  simp only [decide_eq_true_eq] at h
  rw [f26_run]
  cases hn : ((a0.length : Int) != (a1.length : Int)) with
  | true =>
    have : a0 ≠ a1 := by
      intro e; subst e; simp at hn
    have : (a0 == a1) = false := by simpa using this
    rw [this]; rfl
  | false =>
    have hl : a0.length = a1.length := by simp at hn; omega
    exact go26 a0 a1 hl h a0.length 0 (by omega)

theorem loop1123 (x0 : Int) (k0 : Nat) : ∀ (m : Nat) (k j : Nat) (l : List Int), k0 + j + m = l.length → k < k0 + j → 0 < j → l.length ≤ 1000 → k0 < l.length →
    f123h2 k k0 j l = some ⟨[.dat (.slice tI) (l.take k ++ ddG (l.getD (k0 + j - 1) 0) (l.drop (k0 + j)))], [(0, .dead)]⟩
  | 0, k, j, l, hm, hk, hj, hl, h0 => by
    rw [f123h2_eq]
    rw [condT (dT (by first | omega | (simp only [List.length_append, List.length_cons, List.length_nil, List.length_set, List.length_take, List.length_drop, List.length_map]; omega) | (simp; omega)))]
    rw [condF (dF (by omega))]
    repeat (rw [condT (dT (by first | omega | (simp only [List.length_append, List.length_cons, List.length_nil, List.length_set, List.length_take, List.length_drop, List.length_map]; omega) | (simp; omega)))])
    rw [dnil (xs := l) (i := k0 + j) (by omega)]
    simp [ddG]
    exact List.take_left' (by rw [List.length_take]; omega)
  | m + 1, k, j, l, hm, hk, hj, hl, h0 => by
    have h1 : k0 + j < l.length := by omega
    have h2 : k0 + (j - 1) < l.length := by omega
    have ej : wrap .i64 ((j : Int) - 1) = ((j - 1 : Nat) : Int) := by rw [wrap_in (by omega) (by omega)]; omega
    rw [f123h2_eq, ej]
    repeat (rw [condT (dT (by first | omega | (simp only [List.length_append, List.length_cons, List.length_nil, List.length_set, List.length_take, List.length_drop, List.length_map]; omega) | (simp; omega)))])
    simp only [Int.toNat_natCast]
    have hd : l.drop (k0 + j) = l.getD (k0 + j) 0 :: l.drop (k0 + j + 1) := by
      rw [dcons h1, List.getD_eq_getElem?_getD, List.getElem?_eq_getElem h1]; rfl
    have ep : k0 + (j - 1) = k0 + j - 1 := by omega
    rw [hd, ddG, wsucc (by omega), wsucc (by omega), ep]
    have g1 : List.getD l (k0 + j) (Tc.dflt tI) = l.getD (k0 + j) 0 := rfl
    have g2 : List.getD l (k0 + j - 1) (Tc.dflt tI) = l.getD (k0 + j - 1) 0 := rfl
    rw [g1, g2]
    by_cases he : l.getD (k0 + j) 0 = l.getD (k0 + j - 1) 0
    · rw [condF (by rw [he]; simp)]
      rw [loop1123 x0 k0 m k (j + 1) l (by omega) (by omega) (by omega) hl h0, condT (by rw [he]; simp)]
      rfl
    · rw [condT (by simpa using he), condF (a := ddG _ _) (by simpa using he)]
      repeat (rw [condT (dT (by first | omega | (simp only [List.length_append, List.length_cons, List.length_nil, List.length_set, List.length_take, List.length_drop, List.length_map]; omega) | (simp; omega)))])
      have := loop1123 x0 k0 m (k + 1) (j + 1) (l.set k (l.getD (k0 + j) 0)) (by rw [List.length_set]; omega) (by omega) (by omega) (by rw [List.length_set]; omega) (by rw [List.length_set]; omega)
      rw [this]
      congr 4
      have hk' : k < l.length := by omega
      have a1 : (l.set k (l.getD (k0 + j) 0)).take (k + 1) = l.take k ++ [l.getD (k0 + j) 0] := by
        rw [List.take_add_one, List.take_set_of_le (Nat.le_refl k), List.getElem?_set_self hk']; rfl
      have a2 : (l.set k (l.getD (k0 + j) 0)).drop (k0 + (j + 1)) = l.drop (k0 + j + 1) := by
        rw [List.drop_set_of_lt (by omega)]; rfl
      have a3 : (l.set k (l.getD (k0 + j) 0)).getD (k0 + (j + 1) - 1) 0 = l.getD (k0 + j) 0 := by
        rw [List.getD_eq_getElem?_getD, List.getElem?_set_ne (by omega), ← List.getD_eq_getElem?_getD]; rfl
      rw [a1, a2, a3, List.append_assoc]; rfl

theorem loop0123 : ∀ (m k : Nat) (l : List Int), k + m = l.length → 0 < k → l.length ≤ 1000 →
    f123h0 k l = some ⟨[.dat (.slice tI) (l.take k ++ ddG (l.getD (k - 1) 0) (l.drop k))], [(0, .dead)]⟩
  | 0, k, l, hm, hk, hl => by
    rw [f123h0_eq, condF (dlt_not (by omega)), dnil (xs := l) (i := k) (by omega), List.take_of_length_le (by omega)]
    simp [ddG]
  | m + 1, k, l, hm, hk, hl => by
    have h1 : k < l.length := by omega
    have ej : wrap .i64 ((k : Int) - 1) = ((k - 1 : Nat) : Int) := by rw [wrap_in (by omega) (by omega)]; omega
    rw [f123h0_eq, ej]
    repeat (rw [condT (dT (by first | omega | (simp only [List.length_append, List.length_cons, List.length_nil, List.length_set, List.length_take, List.length_drop, List.length_map]; omega) | (simp; omega)))])
    simp only [Int.toNat_natCast]
    have hd : l.drop k = l.getD k 0 :: l.drop (k + 1) := by
      rw [dcons h1, List.getD_eq_getElem?_getD, List.getElem?_eq_getElem h1]; rfl
    have g1 : List.getD l k (Tc.dflt tI) = l.getD k 0 := rfl
    have g2 : List.getD l (k - 1) (Tc.dflt tI) = l.getD (k - 1) 0 := rfl
    rw [hd, ddG, g1, g2, wsucc (by omega)]
    by_cases he : l.getD k 0 = l.getD (k - 1) 0
    · rw [condT (by simpa using he), condT (a := ddG _ _) (by simpa using he)]
      have := loop1123 k k m k 1 l (by omega) (by omega) (by omega) hl h1
      rw [show (1 : Int) = ((1 : Nat) : Int) from rfl, this]
      rfl
    · rw [condF (by simpa using he), condF (a := ddG _ _) (by simpa using he)]
      rw [loop0123 m (k + 1) l (by omega) (by omega) hl]
      have a1 : l.take (k + 1) = l.take k ++ [l.getD k 0] := by
        rw [List.take_add_one, List.getElem?_eq_getElem h1, List.getD_eq_getElem?_getD, List.getElem?_eq_getElem h1]; rfl
      rw [a1, List.append_assoc]; rfl

theorem r123 : R123 := by
  intro a0 h
  simp only [decide_eq_true_eq] at h
  rw [f123_run]
  match a0, h with
  | [], h => rfl
  | [a], h => rfl
  | a :: b :: l, h =>
    rw [condF (dF (by simp; omega))]
    exact loop0123 (b :: l).length 1 (a :: b :: l) (by simp; omega) (by omega) h

theorem go65 (xs : List Int) (hb : xs.length ≤ 12) : ∀ (m i : Nat) (out : List Int), i + m = xs.length → out.length = i →
    f65h0 xs xs.length i out = some ⟨[.dat (.slice tI) (compI (sortI (out ++ (xs.drop i).map fun n => Int.tmod n 12)))], []⟩ := by
  intro m
  induction m with
  | zero =>
    intro i out hi ho
    rw [f65h0_eq, condF (dlt_not (by omega)), dnil (xs := xs) (i := i) (by omega), condT (dT (by omega)), condT (dT (by rw [sortI_len]; omega))]
    simp
  | succ m ih =>
    intro i out hi ho
    have hlt : i < xs.length := by omega
    rw [f65h0_eq]
    rw [condT (dT (by first | omega | (simp only [List.length_append, List.length_cons, List.length_nil, List.length_set, List.length_take, List.length_drop, List.length_map]; omega) | (simp; omega)))]
    rw [condT (dT (by first | omega | (simp only [List.length_append, List.length_cons, List.length_nil, List.length_set, List.length_take, List.length_drop, List.length_map]; omega) | (simp; omega)))]
    rw [condT (dT (by first | omega | (simp only [List.length_append, List.length_cons, List.length_nil, List.length_set, List.length_take, List.length_drop, List.length_map]; omega) | (simp; omega)))]
    rw [getN _ _ _ hlt, c12, condT (dT (by simp; omega)), wsucc (by omega), ih (i + 1) _ (by omega) (by simp; omega), dcons hlt, List.append_assoc, List.map_cons]; rfl
theorem r65 : R65 := by
  intro a0 h
  simp only [decide_eq_true_eq] at h
  rw [f65_run]
  exact go65 a0 h a0.length 0 [] (by omega) rfl

theorem go82 (xs : List Int) (hb : xs.length ≤ 12) : ∀ (m i : Nat) (out : List Int), i + m = xs.length → out.length = i →
    f82h0 xs xs.length i out = some ⟨[.dat (.slice tI) (compI (sortI (out ++ (xs.drop i).map fun n => Int.tmod n 12)))], []⟩ := by
  intro m
  induction m with
  | zero =>
    intro i out hi ho
    rw [f82h0_eq, condF (dlt_not (by omega)), dnil (xs := xs) (i := i) (by omega), condT (dT (by omega)), condT (dT (by rw [sortI_len]; omega))]
    simp
  | succ m ih =>
    intro i out hi ho
    have hlt : i < xs.length := by omega
    rw [f82h0_eq]
    rw [condT (dT (by first | omega | (simp only [List.length_append, List.length_cons, List.length_nil, List.length_set, List.length_take, List.length_drop, List.length_map]; omega) | (simp; omega)))]
    rw [condT (dT (by first | omega | (simp only [List.length_append, List.length_cons, List.length_nil, List.length_set, List.length_take, List.length_drop, List.length_map]; omega) | (simp; omega)))]
    rw [condT (dT (by first | omega | (simp only [List.length_append, List.length_cons, List.length_nil, List.length_set, List.length_take, List.length_drop, List.length_map]; omega) | (simp; omega)))]
    rw [getN _ _ _ hlt, c12, condT (dT (by simp; omega)), wsucc (by omega), ih (i + 1) _ (by omega) (by simp; omega), dcons hlt, List.append_assoc, List.map_cons]; rfl
theorem r82 : R82 := by
  intro a0 h
  simp only [decide_eq_true_eq] at h
  rw [f82_run]
  exact go82 a0 h a0.length 0 [] (by omega) rfl

theorem go66 (xs : List Int) (hb : xs.length ≤ 1000) : ∀ (m i : Nat) (a : Int), i + m = xs.length →
    f66h0 xs a i = some ⟨[.dat tI ((xs.drop i).foldl (fun m x => if x < m then x else m) a)], []⟩ := by
  intro m
  induction m with
  | zero => intro i a hi; rw [f66h0_eq, condF (dlt_not (by omega)), dnil (xs := xs) (i := i) (by omega)]; rfl
  | succ m ih =>
    intro i a hi
    have hlt : i < xs.length := by omega
    rw [f66h0_eq]
    rw [condT (dT (by first | omega | (simp only [List.length_append, List.length_cons, List.length_nil, List.length_set, List.length_take, List.length_drop, List.length_map]; omega) | (simp; omega)))]
    rw [condT (dT (by first | omega | (simp only [List.length_append, List.length_cons, List.length_nil, List.length_set, List.length_take, List.length_drop, List.length_map]; omega) | (simp; omega)))]
    rw [condT (dT (by first | omega | (simp only [List.length_append, List.length_cons, List.length_nil, List.length_set, List.length_take, List.length_drop, List.length_map]; omega) | (simp; omega)))]
    rw [getN _ _ _ hlt, wsucc (by omega), ih (i + 1) _ (by omega), dcons hlt, List.foldl_cons]
theorem r66 : R66 := by
  intro a0 h
  simp only [Bool.and_eq_true, decide_eq_true_eq] at h
  obtain ⟨h1, h2⟩ := h
  cases a0 with
  | nil => simp at h1
  | cons a l =>
    rw [f66_run, condF (dF (by simp; omega))]
    rw [condT (dT (by first | omega | (simp only [List.length_append, List.length_cons, List.length_nil, List.length_set, List.length_take, List.length_drop, List.length_map]; omega) | (simp; omega)))]
    rw [condT (dT (by first | omega | (simp only [List.length_append, List.length_cons, List.length_nil, List.length_set, List.length_take, List.length_drop, List.length_map]; omega) | (simp; omega)))]
    exact go66 (a :: l) h2 l.length 1 a (by simp; omega)

theorem outside_in (n lo hi : Int) : outside n lo hi = !inR n lo hi := by
  unfold outside inR
  have h1 : decide (n < lo) = !decide (lo ≤ n) := by
    by_cases h : lo ≤ n
    · have : ¬ n < lo := by omega
      simp [h, this]
    · have : n < lo := by omega
      simp [h, this]
  have h2 : decide (n > hi) = !decide (n ≤ hi) := by
    by_cases h : n ≤ hi
    · have : ¬ n > hi := by omega
      simp [h, this]
    · have : n > hi := by omega
      simp [h, this]
  rw [h1, h2, Bool.not_and]

theorem outside_false {n lo hi : Int} (h : outside n lo hi = false) : lo ≤ n ∧ n ≤ hi := by
  unfold outside at h
  simp at h
  omega

theorem r61 : R61 := by
  intro a0 _
  rw [f61_run]
  unfold chordF
  have e : (!(t100_0 a0.2.1)) = outside a0.2.1 1 7 := by unfold t100_0 t100; simp
  rw [e]
  cases h1 : outside a0.1 0 11 with
  | true => rfl
  | false =>
    cases h2 : outside a0.2.1 1 7 with
    | true => rfl
    | false =>
      have := outside_false h2
      have k := kind_facts (k := a0.2.1) (by omega) (by omega)
      rw [cond_false, cond_false, condT (by simp; omega), wrap_in (by omega) (by omega)]
      rw [cond_false, cond_false]
      cases outside a0.2.2 0 ((kindT a0.2.1).length - 1) <;> rfl

theorem r19 : R19 := by
  intro a0 _
  rw [f19_run]
  unfold chordF
  rw [← outside_in, ← outside_in, ← outside_in]
  cases h1 : outside a0.1 0 11 with
  | true => rfl
  | false =>
    cases h2 : outside a0.2.1 1 7 with
    | true => rfl
    | false =>
      have := outside_false h2
      have k := kind_facts (k := a0.2.1) (by omega) (by omega)
      rw [cond_false, cond_false, condT (by simp; omega), wrap_in (by omega) (by omega)]
      rw [cond_false, cond_false]
      cases outside a0.2.2 0 ((kindT a0.2.1).length - 1) <;> rfl

theorem chordF_right {c : Chord} (h : chordF c = 0) : rightC c = true := by
  unfold chordF at h
  cases h1 : outside c.1 0 11 with
  | true => rw [h1] at h; simp at h
  | false =>
    rw [h1] at h
    cases h2 : outside c.2.1 1 7 with
    | true => rw [h2] at h; simp at h
    | false =>
      rw [h2] at h
      cases h3 : outside c.2.2 0 ((kindT c.2.1).length - 1) with
      | true => rw [h3] at h; simp at h
      | false =>
        have := outside_false h1
        have := outside_false h2
        have := outside_false h3
        exact right_iff.2 (by omega)

theorem go69 (xs : List Chord) (hb : xs.length ≤ 1000) : ∀ (m i : Nat), i + m = xs.length →
    f69h0 xs xs.length i = some ⟨[.dat tI (rowGo (xs.drop i))], []⟩ := by
  intro m
  induction m with
  | zero => intro i hi; rw [f69h0_eq, condF (dlt_not (by omega)), dnil (xs := xs) (i := i) (by omega)]; rfl
  | succ m ih =>
    intro i hi
    have hlt : i < xs.length := by omega
    rw [f69h0_eq]
    rw [condT (dT (by first | omega | (simp only [List.length_append, List.length_cons, List.length_nil, List.length_set, List.length_take, List.length_drop, List.length_map]; omega) | (simp; omega)))]
    rw [condT (dT (by first | omega | (simp only [List.length_append, List.length_cons, List.length_nil, List.length_set, List.length_take, List.length_drop, List.length_map]; omega) | (simp; omega)))]
    rw [condT (dT (by first | omega | (simp only [List.length_append, List.length_cons, List.length_nil, List.length_set, List.length_take, List.length_drop, List.length_map]; omega) | (simp; omega)))]
    rw [getN _ _ _ hlt, wsucc (by omega), ih (i + 1) (by omega), dcons hlt, rowGo]
    show cond (!(chordF xs[i] == 0)) _ _ = _
    cases chordF xs[i] == 0 <;> rfl
theorem r69 : R69 := by
  intro a0 h
  simp only [decide_eq_true_eq] at h
  rw [f69_run]
  exact go69 a0 h a0.length 0 (by omega)

theorem go21 (xs : List Chord) (hb : xs.length ≤ 1000) : ∀ (m i : Nat), i + m = xs.length →
    f21h0 xs xs.length i = some ⟨[.dat tI (rowGo (xs.drop i))], []⟩ := by
  intro m
  induction m with
  | zero => intro i hi; rw [f21h0_eq, condF (dlt_not (by omega)), dnil (xs := xs) (i := i) (by omega)]; rfl
  | succ m ih =>
    intro i hi
    have hlt : i < xs.length := by omega
    rw [f21h0_eq]
    rw [condT (dT (by first | omega | (simp only [List.length_append, List.length_cons, List.length_nil, List.length_set, List.length_take, List.length_drop, List.length_map]; omega) | (simp; omega)))]
    rw [condT (dT (by first | omega | (simp only [List.length_append, List.length_cons, List.length_nil, List.length_set, List.length_take, List.length_drop, List.length_map]; omega) | (simp; omega)))]
    rw [condT (dT (by first | omega | (simp only [List.length_append, List.length_cons, List.length_nil, List.length_set, List.length_take, List.length_drop, List.length_map]; omega) | (simp; omega)))]
    rw [getN _ _ _ hlt, wsucc (by omega), ih (i + 1) (by omega), dcons hlt, rowGo]
    show cond (!(chordF xs[i] == 0)) _ _ = _
    cases chordF xs[i] == 0 <;> rfl
theorem r21 : R21 := by
  intro a0 a1 h
  simp only [decide_eq_true_eq] at h
  rw [f21_run]
  unfold rowF
  cases hc : decide ((a0.length : Int) > a1) with
  | true => rfl
  | false =>
    have : ¬ (a0.length : Int) > a1 := by simpa using hc
    exact go21 a0 (by omega) a0.length 0 (by omega)

theorem go18 (xs : List Int) (hb : xs.length ≤ 1000) : ∀ (m i : Nat), i + m = xs.length →
    f18h0 xs xs.length i = some ⟨[.dat tI (firstE (xs.drop i))], []⟩ := by
  intro m
  induction m with
  | zero => intro i hi; rw [f18h0_eq, condF (dlt_not (by omega)), dnil (xs := xs) (i := i) (by omega)]; rfl
  | succ m ih =>
    intro i hi
    have hlt : i < xs.length := by omega
    rw [f18h0_eq]
    rw [condT (dT (by first | omega | (simp only [List.length_append, List.length_cons, List.length_nil, List.length_set, List.length_take, List.length_drop, List.length_map]; omega) | (simp; omega)))]
    rw [condT (dT (by first | omega | (simp only [List.length_append, List.length_cons, List.length_nil, List.length_set, List.length_take, List.length_drop, List.length_map]; omega) | (simp; omega)))]
    rw [condT (dT (by first | omega | (simp only [List.length_append, List.length_cons, List.length_nil, List.length_set, List.length_take, List.length_drop, List.length_map]; omega) | (simp; omega)))]
    rw [getN _ _ _ hlt, wsucc (by omega), ih (i + 1) (by omega), dcons hlt, firstE]
    show cond (!(xs[i] == 0)) _ _ = _
    cases xs[i] == 0 <;> rfl
theorem r18 : R18 := by
  intro a0 h
  simp only [decide_eq_true_eq] at h
  rw [f18_run]
  exact go18 a0 h a0.length 0 (by omega)

theorem idxBy_any {α : Type} (p : α → Bool) : ∀ (l : List α) (i : Nat), decide (idxBy p l i ≥ 0) = l.any p
  | [], i => by simp [idxBy]
  | x :: l, i => by
    have ih := idxBy_any p l (i + 1)
    simp only [idxBy, List.any_cons]
    by_cases hx : p x = true
    · simp [hx]
    · have hx : p x = false := by simpa using hx
      simp only [hx, cond_false, Bool.false_or]; exact ih

theorem go125 (xs : List Int) (hb : xs.length ≤ 1000) : ∀ (m i : Nat), i + m = xs.length →
    f125h0 xs xs.length i = some ⟨[.dat tI (idxBy (fun o => t121_0 o) (xs.drop i) i)], []⟩ := by
  intro m
  induction m with
  | zero => intro i hi; rw [f125h0_eq, condF (dlt_not (by omega)), dnil (xs := xs) (i := i) (by omega)]; rfl
  | succ m ih =>
    intro i hi
    have hlt : i < xs.length := by omega
    rw [f125h0_eq]
    rw [condT (dT (by first | omega | (simp only [List.length_append, List.length_cons, List.length_nil, List.length_set, List.length_take, List.length_drop, List.length_map]; omega) | (simp; omega)))]
    rw [condT (dT (by first | omega | (simp only [List.length_append, List.length_cons, List.length_nil, List.length_set, List.length_take, List.length_drop, List.length_map]; omega) | (simp; omega)))]
    rw [condT (dT (by first | omega | (simp only [List.length_append, List.length_cons, List.length_nil, List.length_set, List.length_take, List.length_drop, List.length_map]; omega) | (simp; omega)))]
    rw [getN _ _ _ hlt, wsucc (by omega), ih (i + 1) (by omega), dcons hlt]
    simp only [idxBy]
    cases t121_0 xs[i] <;> rfl
theorem r125 : R125 := by
  intro a0 h
  simp only [decide_eq_true_eq] at h
  rw [f125_run]
  exact go125 a0 h a0.length 0 (by omega)

theorem r64 : R64 := by
  intro a0 a1 h
  simp only [decide_eq_true_eq] at h
  rw [f64_run]
  unfold notesF
  cases (a0.length : Int) == 0 with
  | true => rfl
  | false =>
    cases hc : decide ((a0.length : Int) > a1) with
    | true => rfl
    | false =>
      have : ¬ (a0.length : Int) > a1 := by simpa using hc
      have hl : a0.length ≤ 1000 := by omega
      unfold t76_ok t76_0 t76
      rw [dT hl]
      show cond (decide (idxBy (fun o => t121_0 o) a0 0 ≥ 0)) _ _ = _
      rw [idxBy_any]
      show cond (a0.any fun n => outside n 0 127) _ _ = _
      simp only [cond_false]
      cases (a0.any fun n => outside n 0 127) <;> rfl

theorem go17 (xs : List Int) (hb : xs.length ≤ 1000) : ∀ (m i : Nat), i + m = xs.length →
    f17h1 xs xs.length i = some ⟨[.dat tI (cond ((xs.drop i).any fun n => outside n 0 127) 1 0)], []⟩ := by
  intro m
  induction m with
  | zero => intro i hi; rw [f17h1_eq, condF (dlt_not (by omega)), dnil (xs := xs) (i := i) (by omega)]; rfl
  | succ m ih =>
    intro i hi
    have hlt : i < xs.length := by omega
    rw [f17h1_eq]
    rw [condT (dT (by first | omega | (simp only [List.length_append, List.length_cons, List.length_nil, List.length_set, List.length_take, List.length_drop, List.length_map]; omega) | (simp; omega)))]
    rw [condT (dT (by first | omega | (simp only [List.length_append, List.length_cons, List.length_nil, List.length_set, List.length_take, List.length_drop, List.length_map]; omega) | (simp; omega)))]
    rw [condT (dT (by first | omega | (simp only [List.length_append, List.length_cons, List.length_nil, List.length_set, List.length_take, List.length_drop, List.length_map]; omega) | (simp; omega)))]
    rw [getN _ _ _ hlt, wsucc (by omega), ih (i + 1) (by omega), dcons hlt, ← outside_in, List.any_cons]
    cases outside xs[i] 0 127 <;> rfl
theorem r17 : R17 := by
  intro a0 a1 h
  simp only [decide_eq_true_eq] at h
  rw [f17_run]
  unfold notesF
  cases (a0.length : Int) == 0 with
  | true => rfl
  | false =>
    cases hc : decide ((a0.length : Int) > a1) with
    | true => rfl
    | false =>
      have : ¬ (a0.length : Int) > a1 := by simpa using hc
      exact go17 a0 (by omega) a0.length 0 (by omega)

end Go.Ev.H

set_option linter.unusedVariables false
set_option linter.unusedSimpArgs false
namespace Go.Ev.H
open Go Go.Ev Go.Proofs
def QN (L : List Int) (a b : Int) (f : Fr) : Prop := ∃ (a' : Int) (l : List Int), f = ⟨[.dat (.slice tI) l], [(0, .box [.dat (.slice tI) L, .dat tI a'])]⟩ ∧ a ≤ a' ∧ a' ≤ b ∧ l.length ≤ 5

theorem QN_mono {L : List Int} {a b c d : Int} (h1 : c ≤ a) (h2 : b ≤ d) {o : Option Fr} (h : Ends (QN L a b) o) : Ends (QN L c d) o := by
  refine ends_mono h ?_
  rintro f ⟨a', l, e, h3, h4, h5⟩
  exact ⟨a', l, e, by omega, by omega, h5⟩

theorem nt_tail (L ys : List Int) (b : Int) (h0 : 0 ≤ b) (hb : b + 12 ≤ 1099511627776) (hl : ys.length ≤ 5) : Ends (QN L b (b + 12))
    (cond (decide (((List.length ys : Nat) : Int) > (0 : Int))) (cond (atOk 1 b) (cond (next L b (10 : Int) == 0) (cond (atOk 1 (nextAt b)) (cond (atOk 8 (nextAt (nextAt b))) (cond (decide ((0 : Int) ≤ (next L (nextAt b) ((List.length ys : Nat) : Int)))) (cond (decide ((next L (nextAt b) ((List.length ys : Nat) : Int)) < ((List.length ys : Nat) : Int))) (cond (decide ((Int.toNat (next L (nextAt b) ((List.length ys : Nat) : Int))) < List.length ys)) (some (α := Fr) ⟨[.dat (.slice tI) (List.set ys (Int.toNat (next L (nextAt b) ((List.length ys : Nat) : Int))) ((oddS L (nextAt (nextAt b)) (0 : Int) (127 : Int)).2))], [(0, .box [.dat (.slice tI) L, .dat tI ((oddS L (nextAt (nextAt b)) (0 : Int) (127 : Int)).1)])]⟩) none) none) none) none) none) (some (α := Fr) ⟨[.dat (.slice tI) ys], [(0, .box [.dat (.slice tI) L, .dat tI (nextAt b)])]⟩)) none) (some (α := Fr) ⟨[.dat (.slice tI) ys], [(0, .box [.dat (.slice tI) L, .dat tI b])]⟩)) := by
  have e1 := nextAt_s (a := b) h0 (by omega)
  have e2 := nextAt_s (a := b + 1) (by omega) (by omega)
  have e3 := oddAt L (a := b + 1 + 1) (lo := 0) (hi := 127) (by omega) (by omega) (by omega)
  rw [e1, e2]
  refine ends_cond (fun hp => ?_) (fun _ => ends_some ⟨_, _, rfl, by omega, by omega, hl⟩)
  have hp' : 0 < ys.length := by have : ((ys.length : Nat) : Int) > 0 := by simpa using hp
                                 omega
  refine ends_if (atOk_t h0 (by omega)) (ends_cond (fun _ => ?_) (fun _ => ends_some ⟨_, _, rfl, by omega, by omega, hl⟩))
  obtain ⟨k1, k2⟩ := next_range L (b + 1) (n := (ys.length : Int)) (by omega) (by omega)
  refine ends_if (atOk_t (by omega) (by omega)) (ends_if (atOk_t (by omega) (by omega)) (ends_if (dT k1) (ends_if (dT k2) (ends_if (dT (by omega)) ?_))))
  exact ends_some ⟨_, _, rfl, by rw [e3]; omega, by rw [e3]; omega, by rw [List.length_set]; exact hl⟩

theorem nt0 (xs : List Int) (hx : xs.length ≤ 4) (L : List Int) (r k t : Int) : ∀ (m i : Nat) (a : Int) (out : List Int),
    i + m = xs.length → 0 ≤ a → a + 3 * m + 20 ≤ 1099511627776 → out.length ≤ i →
    Ends (QN L a (a + 3 * m + 20)) (f8h0 xs xs.length i L a r k t out) := by
  intro m
  induction m with
  | zero =>
    intro i a out hi h0 ha ho
    rw [f8h0_eq, condF (dlt_not (i := i) (n := xs.length) (by omega))]
    refine ends_if (atOk_t h0 (by omega)) ?_
    have e1 := nextAt_s (a := a) h0 (by omega)
    rw [e1]
    refine ends_cond (fun _ => ?_) (fun _ => ?_)
    · refine ends_if (dT (by simp; omega)) ?_
      exact QN_mono (by omega) (by omega) (nt_tail L (out ++ [wrap .i64 (24 + r)]) (a + 1) (by omega) (by omega) (by simp; omega))
    · exact QN_mono (by omega) (by omega) (nt_tail L out (a + 1) (by omega) (by omega) (by omega))
  | succ m ih =>
    intro i a out hi h0 ha ho
    have hlt : i < xs.length := by omega
    have e1 := nextAt_s (a := a) h0 (by omega)
    have e2 := rangeAt_s (a := a + 1) (lo := 0) (hi := 3) (by omega) (by omega) (by omega)
    rw [f8h0_eq]
    rw [condT (dT (by first | omega | (simp only [List.length_append, List.length_cons, List.length_nil, List.length_set, List.length_take, List.length_drop, List.length_map]; omega) | (simp; omega)))]
    rw [condT (dT (by first | omega | (simp only [List.length_append, List.length_cons, List.length_nil, List.length_set, List.length_take, List.length_drop, List.length_map]; omega) | (simp; omega)))]
    rw [condT (dT (by first | omega | (simp only [List.length_append, List.length_cons, List.length_nil, List.length_set, List.length_take, List.length_drop, List.length_map]; omega) | (simp; omega)))]
    rw [getN _ _ _ hlt, wsucc (by omega), e1, e2]
    refine ends_if (atOk_t h0 (by omega)) (ends_cond (fun _ => ?_) (fun _ => ?_))
    · refine ends_if (atOk_t (by omega) (by omega)) (ends_if (dT (by simp; omega)) ?_)
      exact QN_mono (by omega) (by omega) (ih (i + 1) (a + 1 + 1) _ (by omega) (by omega) (by omega) (by simp; omega))
    · exact QN_mono (by omega) (by omega) (ih (i + 1) (a + 1) _ (by omega) (by omega) (by omega) (by omega))

theorem kindT_pos : ∀ k ∈ List.range 7, 2 < (kindT ((k : Int) + 1)).length := by decide +kernel
theorem right_root {r k t : Int} (h1 : 0 ≤ r) (h2 : r ≤ 11) (h3 : 1 ≤ k) (h4 : k ≤ 7) (h5 : 0 ≤ t) (h6 : t ≤ 2) : rightC (r, (k, t)) = true := by
  refine right_iff.2 ⟨h1, h2, h3, h4, h5, ?_⟩
  have := kindT_pos (k - 1).toNat (List.mem_range.2 (by omega))
  have e : (((k - 1).toNat : Nat) : Int) + 1 = k := by omega
  rw [e] at this
  show t < ((kindT k).length : Int)
  omega

theorem aNotes_spec (L : List Int) (at_ : Int) (h : atOk 1000 at_ = true) :
    (at_ ≤ (aNotes L at_).1 ∧ (aNotes L at_).1 ≤ at_ + 100 ∧ (aNotes L at_).2.length ≤ 5) ∧
    I8.run ⟨[.ptr 0 0], [(0, .box [.dat (.slice tI) L, .dat tI at_])]⟩ = some ⟨[.dat (.slice tI) (aNotes L at_).2], [(0, .box [.dat (.slice tI) L, .dat tI (aNotes L at_).1])]⟩ := by
  have h1 := atOk_iff.1 h
  have hE : Ends (QN L at_ (at_ + 100)) (I8.run ⟨[.ptr 0 0], [(0, .box [.dat (.slice tI) L, .dat tI at_])]⟩) := by
    rw [f8_run]
    have e1 := rangeAt_s (a := at_) (lo := 0) (hi := 11) (by omega) (by omega) (by omega)
    have e2 := rangeAt_s (a := at_ + 1) (lo := 1) (hi := 7) (by omega) (by omega) (by omega)
    rw [e1, e2]
    have r1 := rangeS_in L at_ (lo := 0) (hi := 11) (by omega) (by omega) (by omega)
    have r2 := rangeS_in L (at_ + 1) (lo := 1) (hi := 7) (by omega) (by omega) (by omega)
    have hr := right_root r1.1 r1.2 r2.1 r2.2 (Int.le_refl 0) (by omega : (0 : Int) ≤ 2)
    refine ends_if (atOk_t h1.1 (by omega)) (ends_if (atOk_t (by omega) (by omega)) (ends_if hr ?_))
    have hl := tones_len _ (mem_allC hr)
    refine QN_mono ?_ ?_ (nt0 _ hl.1 L _ _ _ _ 0 (at_ + 1 + 1) [] (Nat.zero_add _) (by omega) ?_ (by simp)) <;> omega
  obtain ⟨f, hf, a', p, rfl, h2, h3, h4⟩ := hE
  exact Classical.epsilon_spec (p := fun p : Int × List Int => (at_ ≤ p.1 ∧ p.1 ≤ at_ + 100 ∧ p.2.length ≤ 5) ∧
    I8.run ⟨[.ptr 0 0], [(0, .box [.dat (.slice tI) L, .dat tI at_])]⟩ = some ⟨[.dat (.slice tI) p.2], [(0, .box [.dat (.slice tI) L, .dat tI p.1])]⟩)
    ⟨(a', p), ⟨h2, h3, h4⟩, hf⟩
theorem r8 : R8 := fun L at_ h => (aNotes_spec L at_ h).2

def QC1 (L : List Int) (a b : Int) (f : Fr) : Prop := ∃ (a' : Int) (c : Chord), f = ⟨[.dat tChord c], [(0, .box [.dat (.slice tI) L, .dat tI a'])]⟩ ∧ a ≤ a' ∧ a' ≤ b
theorem aChord_spec (L : List Int) (at_ : Int) (h : atOk 30 at_ = true) : (at_ ≤ (aChord L at_).1 ∧ (aChord L at_).1 ≤ at_ + 10) ∧
    I9.run ⟨[.ptr 0 0], [(0, .box [.dat (.slice tI) L, .dat tI at_])]⟩ = some ⟨[.dat tChord (aChord L at_).2], [(0, .box [.dat (.slice tI) L, .dat tI (aChord L at_).1])]⟩ := by
  have h1 := atOk_iff.1 h
  have hE : Ends (QC1 L at_ (at_ + 10)) (I9.run ⟨[.ptr 0 0], [(0, .box [.dat (.slice tI) L, .dat tI at_])]⟩) := by
    rw [f9_run]
    simp (disch := omega) only [nextAt_s, oddAt, rangeAt_s]
    refine ends_if (atOk_t h1.1 (by omega)) (ends_cond (fun _ => ?_) (fun _ => ?_))
    · exact ends_if (atOk_t (by omega) (by omega)) (ends_if (atOk_t (by omega) (by omega)) (ends_if (atOk_t (by omega) (by omega)) (ends_some ⟨_, _, rfl, by omega, by omega⟩)))
    · exact ends_if (atOk_t (by omega) (by omega)) (ends_if (atOk_t (by omega) (by omega)) (ends_if (atOk_and (by omega) (by omega) rfl rfl) (ends_some ⟨_, _, rfl, by omega, by omega⟩)))
  obtain ⟨f, hf, a', p, rfl, h2, h3⟩ := hE
  exact Classical.epsilon_spec (p := fun p : Int × Chord => (at_ ≤ p.1 ∧ p.1 ≤ at_ + 10) ∧
    I9.run ⟨[.ptr 0 0], [(0, .box [.dat (.slice tI) L, .dat tI at_])]⟩ = some ⟨[.dat tChord p.2], [(0, .box [.dat (.slice tI) L, .dat tI p.1])]⟩)
    ⟨(a', p), ⟨h2, h3⟩, hf⟩
theorem r9 : R9 := fun L at_ h => (aChord_spec L at_ h).2

def QCs (L : List Int) (a b : Int) (n : Nat) (f : Fr) : Prop := ∃ (a' : Int) (l : List Chord), f = ⟨[.dat (.slice tChord) l], [(0, .box [.dat (.slice tI) L, .dat tI a'])]⟩ ∧ a ≤ a' ∧ a' ≤ b ∧ l.length ≤ n
theorem QCs_mono {L : List Int} {a b c d : Int} {n : Nat} (h1 : c ≤ a) (h2 : b ≤ d) {o : Option Fr} (h : Ends (QCs L a b n) o) : Ends (QCs L c d n) o := by
  refine ends_mono h ?_
  rintro f ⟨a', l, e, h3, h4, h5⟩
  exact ⟨a', l, e, by omega, by omega, h5⟩
theorem cs0 (L : List Int) (n : Nat) (hn : n ≤ 5) : ∀ (m i : Nat) (a : Int) (out : List Chord), i + m = n → 0 ≤ a → a + 20 * m + 40 ≤ 1099511627776 → out.length ≤ i →
    Ends (QCs L a (a + 20 * m) n) (f11h0 n i L a out) := by
  intro m
  induction m with
  | zero =>
    intro i a out hi h0 ha ho
    rw [f11h0_eq, condF (dlt_not (by omega))]
    exact ends_some ⟨_, _, rfl, by omega, by omega, by omega⟩
  | succ m ih =>
    intro i a out hi h0 ha ho
    have hk := atOk_t (k := 30) h0 (by omega)
    obtain ⟨⟨s1, s2⟩, _⟩ := aChord_spec L a hk
    rw [f11h0_eq, condT (dlt (by omega))]
    generalize aChord L a = P at *
    obtain ⟨a1, c⟩ := P
    simp only at s1 s2 ⊢
    rw [wsucc (by omega)]
    simp (disch := omega) only [nextAt_s]
    refine ends_if hk (ends_if (atOk_t (by omega) (by omega)) (ends_cond (fun _ => ?_) (fun _ => ?_)))
    · refine ends_if (atOk_and (by omega) (by omega) rfl rfl) (ends_if (dT (by simp; omega)) ?_)
      exact QCs_mono (by omega) (by omega) (ih (i + 1) (a1 + 1 + 1) _ (by omega) (by omega) (by omega) (by simp; omega))
    · refine ends_if (dT (by simp; omega)) ?_
      exact QCs_mono (by omega) (by omega) (ih (i + 1) (a1 + 1) _ (by omega) (by omega) (by omega) (by simp; omega))
theorem aChords_spec (L : List Int) (at_ n : Int) (h : (atOk 1000 at_ && decide (0 ≤ n) && decide (n ≤ 5)) = true) :
    (at_ ≤ (aChords L at_ n).1 ∧ (aChords L at_ n).1 ≤ at_ + 100 ∧ (aChords L at_ n).2.length ≤ 5) ∧
    I11.run ⟨[.ptr 0 0, .dat tI n], [(0, .box [.dat (.slice tI) L, .dat tI at_])]⟩ = some ⟨[.dat (.slice tChord) (aChords L at_ n).2], [(0, .box [.dat (.slice tI) L, .dat tI (aChords L at_ n).1])]⟩ := by
  simp only [Bool.and_eq_true, decide_eq_true_eq] at h
  obtain ⟨⟨h1, h2⟩, h3⟩ := h
  have h1 := atOk_iff.1 h1
  have hE : Ends (QCs L at_ (at_ + 100) n.toNat) (I11.run ⟨[.ptr 0 0, .dat tI n], [(0, .box [.dat (.slice tI) L, .dat tI at_])]⟩) := by
    rw [f11_run]
    have := cs0 L n.toNat (by omega) n.toNat 0 at_ [] (by omega) h1.1 (by omega) (by simp)
    rw [show ((n.toNat : Nat) : Int) = n by omega] at this
    exact QCs_mono (by omega) (by omega) this
  obtain ⟨f, hf, a', p, rfl, h4, h5, h6⟩ := hE
  exact Classical.epsilon_spec (p := fun p : Int × List Chord => (at_ ≤ p.1 ∧ p.1 ≤ at_ + 100 ∧ p.2.length ≤ 5) ∧
    I11.run ⟨[.ptr 0 0, .dat tI n], [(0, .box [.dat (.slice tI) L, .dat tI at_])]⟩ = some ⟨[.dat (.slice tChord) p.2], [(0, .box [.dat (.slice tI) L, .dat tI p.1])]⟩)
    ⟨(a', p), ⟨h4, h5, by show p.length ≤ 5; omega⟩, hf⟩
theorem r11 : R11 := fun a0 L at_ h => (aChords_spec L at_ a0 h).2

end Go.Ev.H

set_option linter.unusedVariables false
set_option linter.unusedSimpArgs false
namespace Go.Ev.H
open Go Go.Ev Go.Proofs
theorem eta_c (c : Chord) : ((c.1, (c.2.1, c.2.2)) : Chord) = c := rfl
theorem any_congr' {α : Type} {p q : α → Bool} : ∀ (l : List α), (∀ x ∈ l, p x = q x) → l.any p = l.any q
  | [], _ => rfl
  | x :: l, h => by rw [List.any_cons, List.any_cons, h x (List.mem_cons_self ..), any_congr' l (fun y hy => h y (List.mem_cons_of_mem _ hy))]
theorem all_mem {α : Type} {p : α → Bool} {l : List α} (h : l.all p = true) {x : α} (hx : x ∈ l) : p x = true := List.all_eq_true.1 h x hx

theorem rowGo_right : ∀ (l : List Chord), rowGo l = 0 → l.all rightC = true
  | [], _ => rfl
  | c :: l, h => by
    rw [rowGo] at h
    cases hc : chordF c == 0 with
    | false => rw [hc] at h; have : chordF c = 0 := h; rw [this] at hc; cases hc
    | true =>
      rw [hc] at h
      rw [List.all_cons, chordF_right (by simpa using hc), rowGo_right l h]; rfl

/-! ### shared tones -/
theorem sharedGo_loop14 (c : Chord) (hc : rightC c = true) (xs : List Int) (hx : xs.length ≤ 4) : ∀ (m i : Nat) (n : Nat), i + m = xs.length → n ≤ i →
    f14h0 n xs xs.length i c.1 c.2.1 c.2.2 = some ⟨[.dat tI (sharedGo (tonesR c) (xs.drop i) n), .dat tI 0], []⟩ := by
  have hl := tones_len _ (mem_allC hc)
  intro m
  induction m with
  | zero => intro i n hi hn; rw [f14h0_eq, condF (dlt_not (by omega)), dnil (xs := xs) (i := i) (by omega)]; rfl
  | succ m ih =>
    intro i n hi hn
    have hlt : i < xs.length := by omega
    rw [f14h0_eq]
    rw [condT (dT (by first | omega | (simp only [List.length_append, List.length_cons, List.length_nil, List.length_set, List.length_take, List.length_drop, List.length_map]; omega) | (simp; omega)))]
    rw [condT (dT (by first | omega | (simp only [List.length_append, List.length_cons, List.length_nil, List.length_set, List.length_take, List.length_drop, List.length_map]; omega) | (simp; omega)))]
    rw [condT (dT (by first | omega | (simp only [List.length_append, List.length_cons, List.length_nil, List.length_set, List.length_take, List.length_drop, List.length_map]; omega) | (simp; omega)))]
    rw [eta_c, condT hc, condT (dT (by omega)), getN _ _ _ hlt, wsucc (by omega), wsucc (by omega), ih (i + 1) n (by omega) (by omega), ih (i + 1) (n + 1) (by omega) (by omega), dcons hlt, sharedGo]
    cases containsI (tonesR c) xs[i] <;> rfl
theorem sharedGo_loop23 (c : Chord) (hc : rightC c = true) (xs : List Int) (hx : xs.length ≤ 4) : ∀ (m i : Nat) (n : Nat), i + m = xs.length → n ≤ i →
    f23h0 n xs xs.length i c.1 c.2.1 c.2.2 = some ⟨[.dat tI (sharedGo (tonesR c) (xs.drop i) n)], []⟩ := by
  have hl := tones_len _ (mem_allC hc)
  intro m
  induction m with
  | zero => intro i n hi hn; rw [f23h0_eq, condF (dlt_not (by omega)), dnil (xs := xs) (i := i) (by omega)]; rfl
  | succ m ih =>
    intro i n hi hn
    have hlt : i < xs.length := by omega
    rw [f23h0_eq]
    rw [condT (dT (by first | omega | (simp only [List.length_append, List.length_cons, List.length_nil, List.length_set, List.length_take, List.length_drop, List.length_map]; omega) | (simp; omega)))]
    rw [condT (dT (by first | omega | (simp only [List.length_append, List.length_cons, List.length_nil, List.length_set, List.length_take, List.length_drop, List.length_map]; omega) | (simp; omega)))]
    rw [condT (dT (by first | omega | (simp only [List.length_append, List.length_cons, List.length_nil, List.length_set, List.length_take, List.length_drop, List.length_map]; omega) | (simp; omega)))]
    rw [eta_c, condT hc, condT (dT (by omega)), getN _ _ _ hlt, wsucc (by omega), wsucc (by omega), ih (i + 1) n (by omega) (by omega), ih (i + 1) (n + 1) (by omega) (by omega), dcons hlt, sharedGo]
    cases containsI (tonesR c) xs[i] <;> rfl
theorem r23 : R23 := by
  intro a0 a1 h
  simp only [Bool.and_eq_true] at h
  rw [f23_run, eta_c, condT h.1]
  exact sharedGo_loop23 a1 h.2 (tonesR a0) (tones_len _ (mem_allC h.1)).1 _ 0 0 (Nat.zero_add _) (by omega)
theorem r14 : R14 := by
  intro a0 a1 _
  rw [f14_run, condT (dT (by simp)), eta_c, eta_c]
  unfold sharedF
  cases hr : rowGo [a0, a1] == 0 with
  | false =>
    have : (rowGo [a0, a1] != 0) = true := by show (!(rowGo [a0, a1] == 0)) = true; rw [hr]; rfl
    rw [condT this]; rfl
  | true =>
    have : (rowGo [a0, a1] != 0) = false := by show (!(rowGo [a0, a1] == 0)) = false; rw [hr]; rfl
    have hR := rowGo_right [a0, a1] (by simpa using hr)
    simp only [List.all_cons, List.all_nil, Bool.and_true, Bool.and_eq_true] at hR
    rw [condF this, condT hR.1]
    exact sharedGo_loop14 a1 hR.2 (tonesR a0) (tones_len _ (mem_allC hR.1)).1 _ 0 0 (Nat.zero_add _) (by omega)

/-! ### keys -/
theorem k1_eq (t tn : Int) (mj : List Int) (h : mj.length ≤ 1000) : t73_ok t tn mj = true ∧ t73_0 t tn mj = !containsI mj (Int.tmod (wrap .i64 (wrap .i64 (t - tn) + 12)) 12) := by
  unfold t73_ok t73_0 t73
  rw [dT (p := mj.length ≤ 1000000) (by omega)]
  exact ⟨rfl, rfl⟩
theorem k1c_eq (l : List Int) (tn : Int) (mj : List Int) (h : mj.length ≤ 1000) (hl : l.length ≤ 1000) : t76a_ok l tn mj = true ∧ t76a_0 l tn mj = l.any (fun o => t73_0 o tn mj) := by
  unfold t76a_ok t76a_0 t76a
  rw [dT hl, dT h, ← idxBy_any _ l 0]
  exact ⟨rfl, rfl⟩
theorem k2_eq (c : Chord) (tn : Int) (mj : List Int) (h : mj.length ≤ 1000) (hc : rightC c = true) : t75_ok c tn mj = true ∧ t75_0 c tn mj = (tonesR c).any (fun o => t73_0 o tn mj) := by
  have hl := tones_len _ (mem_allC hc)
  obtain ⟨q1, q2⟩ := k1c_eq (tonesR c) tn mj h (by omega)
  unfold t75_ok t75_0 t75
  rw [eta_c, hc, q1, q2]
  exact ⟨rfl, rfl⟩
theorem k2c_eq (l : List Chord) (tn : Int) (mj : List Int) (h : mj.length ≤ 1000) (hl : l.length ≤ 1000) (hr : l.all rightC = true) : t74_ok l tn mj = true ∧ t74_0 l tn mj = l.any (fun c => (tonesR c).any (fun o => t73_0 o tn mj)) := by
  unfold t74_ok t74_0 t74
  rw [dT hl, dT h, hr]
  refine ⟨rfl, ?_⟩
  show decide (idxBy (fun o => t75_0 o tn mj) l 0 ≥ 0) = _
  rw [idxBy_any]
  exact any_congr' l fun c hc => (k2_eq c tn mj h (all_mem hr hc)).2

theorem go125a (xs : List Int) (hb : xs.length ≤ 1000) (tn : Int) (mj : List Int) (h : mj.length ≤ 1000) : ∀ (m i : Nat), i + m = xs.length →
    f125ah0 xs xs.length i tn mj = some ⟨[.dat tI (idxBy (fun o => t73_0 o tn mj) (xs.drop i) i)], [(0, .box [.slc 2]), (1, .box [.dat tI tn]), (2, .arr tI mj)]⟩ := by
  intro m
  induction m with
  | zero => intro i hi; rw [f125ah0_eq, condF (dlt_not (by omega)), dnil (xs := xs) (i := i) (by omega)]; rfl
  | succ m ih =>
    intro i hi
    have hlt : i < xs.length := by omega
    rw [f125ah0_eq]
    rw [condT (dT (by first | omega | (simp only [List.length_append, List.length_cons, List.length_nil, List.length_set, List.length_take, List.length_drop, List.length_map]; omega) | (simp; omega)))]
    rw [condT (dT (by first | omega | (simp only [List.length_append, List.length_cons, List.length_nil, List.length_set, List.length_take, List.length_drop, List.length_map]; omega) | (simp; omega)))]
    rw [condT (dT (by first | omega | (simp only [List.length_append, List.length_cons, List.length_nil, List.length_set, List.length_take, List.length_drop, List.length_map]; omega) | (simp; omega)))]
    rw [getN _ _ _ hlt, condT (k1_eq _ tn mj h).1, wsucc (by omega), ih (i + 1) (by omega), dcons hlt]
    simp only [idxBy]
    cases t73_0 xs[i] tn mj <;> rfl
theorem r125a : R125a := by
  intro a0 tn mj h
  simp only [Bool.and_eq_true, decide_eq_true_eq] at h
  rw [f125a_run]
  exact go125a a0 h.1 tn mj h.2 a0.length 0 (by omega)

theorem go124 (xs : List Chord) (hb : xs.length ≤ 1000) (tn : Int) (mj : List Int) (h : mj.length ≤ 1000) (hr : xs.all rightC = true) : ∀ (m i : Nat), i + m = xs.length →
    f124h0 xs xs.length i tn mj = some ⟨[.dat tI (idxBy (fun o => t75_0 o tn mj) (xs.drop i) i)], [(0, .box [.clos 73 [.ptr 1 0, .ptr 2 0]]), (1, .box [.slc 3]), (2, .box [.dat tI tn]), (3, .arr tI mj)]⟩ := by
  intro m
  induction m with
  | zero => intro i hi; rw [f124h0_eq, condF (dlt_not (by omega)), dnil (xs := xs) (i := i) (by omega)]; rfl
  | succ m ih =>
    intro i hi
    have hlt : i < xs.length := by omega
    rw [f124h0_eq]
    rw [condT (dT (by first | omega | (simp only [List.length_append, List.length_cons, List.length_nil, List.length_set, List.length_take, List.length_drop, List.length_map]; omega) | (simp; omega)))]
    rw [condT (dT (by first | omega | (simp only [List.length_append, List.length_cons, List.length_nil, List.length_set, List.length_take, List.length_drop, List.length_map]; omega) | (simp; omega)))]
    rw [condT (dT (by first | omega | (simp only [List.length_append, List.length_cons, List.length_nil, List.length_set, List.length_take, List.length_drop, List.length_map]; omega) | (simp; omega)))]
    rw [getN _ _ _ hlt, condT (k2_eq _ tn mj h (all_mem hr (List.getElem_mem hlt))).1, wsucc (by omega), ih (i + 1) (by omega), dcons hlt]
    simp only [idxBy]
    cases t75_0 xs[i] tn mj <;> rfl
theorem r124 : R124 := by
  intro a0 tn mj h
  simp only [Bool.and_eq_true, decide_eq_true_eq] at h
  rw [f124_run]
  exact go124 a0 h.1.1 tn mj h.1.2 h.2 a0.length 0 (by omega)

theorem filt_step (l : List Chord) (k m : Nat) : ((List.range' k (m + 1)).filter fun k => keyIn l k).map (fun (k : Nat) => (k : Int)) = cond (keyIn l k) [(k : Int)] [] ++ ((List.range' (k + 1) m).filter fun k => keyIn l k).map (fun (k : Nat) => (k : Int)) := by
  rw [range1, List.filter_cons]
  cases keyIn l k <;> rfl

theorem keyIn_eq (l : List Chord) (hr : l.all rightC = true) (k : Nat) (hk : k ≤ 11) : (!l.any (fun c => (tonesR c).any (fun o => t73_0 o (k : Int) majorL))) = keyIn l k := by
  unfold keyIn
  congr 1
  refine any_congr' l fun c hc => any_congr' _ fun t ht => ?_
  have h1 := tones_in c (mem_allC (all_mem hr hc)) t ht
  rw [(k1_eq t k majorL (by decide)).2, wrap_in (x := t - (k : Int)) (by omega) (by omega), wrap_in (by omega) (by omega)]

theorem go16 (l : List Chord) (hl : l.length ≤ 1000) (hr : l.all rightC = true) : ∀ (m k : Nat) (out : List Int), k + m = 12 → out.length ≤ k →
    f16h0 l k out majorL = some ⟨[.dat (.slice tI) (out ++ ((List.range' k m).filter fun k => keyIn l k).map (fun (k : Nat) => (k : Int))), .dat tI 0], []⟩ := by
  intro m
  induction m with
  | zero => intro k out hk ho; rw [f16h0_eq, condF (dF (by omega))]; simp
  | succ m ih =>
    intro k out hk ho
    obtain ⟨q1, q2⟩ := k2c_eq l k majorL (by decide) hl hr
    rw [f16h0_eq, condT (dT (by omega)), condT q1, q2, keyIn_eq l hr k (by omega), wsucc (by omega), filt_step]
    cases keyIn l k with
    | false => rw [cond_false, ih (k + 1) out (by omega) (by omega)]; rfl
    | true =>
      rw [cond_true, condT (dT (by simp; omega)), ih (k + 1) _ (by omega) (by simp; omega), List.append_assoc]; rfl
theorem r16 : R16 := by
  intro a0 _
  rw [f16_run]
  have e1 : t72_ok a0 = true ∧ t72_0 a0 = rowF a0 144 := by
    unfold t72_ok t72_0 t72 rowF
    cases hc : decide ((a0.length : Int) > 144) with
    | true => exact ⟨rfl, rfl⟩
    | false =>
      have : ¬ (a0.length : Int) > 144 := by simpa using hc
      rw [dT (p := a0.length ≤ 1000) (by omega)]; exact ⟨rfl, rfl⟩
  unfold keysF
  rw [condT e1.1, e1.2]
  show cond (!(rowF a0 144 == 0)) _ _ = _
  cases hr : rowF a0 144 == 0 with
  | false => rfl
  | true =>
    have h0 : rowF a0 144 = 0 := by simpa using hr
    unfold rowF at h0
    cases hc : decide ((a0.length : Int) > 144) with
    | true => rw [hc] at h0; cases h0
    | false =>
      rw [hc] at h0
      have : ¬ (a0.length : Int) > 144 := by simpa using hc
      have := go16 a0 (by omega) (rowGo_right a0 h0) 12 0 [] rfl (by simp)
      exact this

theorem q1_eq (t : Int) (sc : List Int) (h : sc.length ≤ 1000) : t84_ok t sc = true ∧ t84_0 t sc = !containsI sc t := by
  unfold t84_ok t84_0 t84
  rw [dT (p := sc.length ≤ 1000000) (by omega)]
  exact ⟨rfl, rfl⟩
theorem q1c_eq (l : List Int) (sc : List Int) (h : sc.length ≤ 1000) (hl : l.length ≤ 1000) : t76b_ok l sc = true ∧ t76b_0 l sc = l.any (fun o => t84_0 o sc) := by
  unfold t76b_ok t76b_0 t76b
  rw [dT hl, dT h, ← idxBy_any _ l 0]
  exact ⟨rfl, rfl⟩
theorem q2_eq (c : Chord) (sc : List Int) (h : sc.length ≤ 1000) (hc : rightC c = true) : t83_ok c sc = true ∧ t83_0 c sc = (tonesR c).any (fun o => t84_0 o sc) := by
  have hl := tones_len _ (mem_allC hc)
  obtain ⟨q1, q2⟩ := q1c_eq (tonesR c) sc h (by omega)
  unfold t83_ok t83_0 t83
  rw [eta_c, hc, q1, q2]
  exact ⟨rfl, rfl⟩
theorem q2c_eq (l : List Chord) (sc : List Int) (h : sc.length ≤ 1000) (hl : l.length ≤ 1000) (hr : l.all rightC = true) : t74a_ok l sc = true ∧ t74a_0 l sc = l.any (fun c => (tonesR c).any (fun o => t84_0 o sc)) := by
  unfold t74a_ok t74a_0 t74a
  rw [dT hl, dT h, hr]
  refine ⟨rfl, ?_⟩
  show decide (idxBy (fun o => t83_0 o sc) l 0 ≥ 0) = _
  rw [idxBy_any]
  exact any_congr' l fun c hc => (q2_eq c sc h (all_mem hr hc)).2

theorem go125b (xs : List Int) (hb : xs.length ≤ 1000) (sc : List Int) (h : sc.length ≤ 1000) : ∀ (m i : Nat), i + m = xs.length →
    f125bh0 xs xs.length i sc = some ⟨[.dat tI (idxBy (fun o => t84_0 o sc) (xs.drop i) i)], [(0, .box [.slc 1]), (1, .arr tI sc)]⟩ := by
  intro m
  induction m with
  | zero => intro i hi; rw [f125bh0_eq, condF (dlt_not (by omega)), dnil (xs := xs) (i := i) (by omega)]; rfl
  | succ m ih =>
    intro i hi
    have hlt : i < xs.length := by omega
    rw [f125bh0_eq]
    rw [condT (dT (by first | omega | (simp only [List.length_append, List.length_cons, List.length_nil, List.length_set, List.length_take, List.length_drop, List.length_map]; omega) | (simp; omega)))]
    rw [condT (dT (by first | omega | (simp only [List.length_append, List.length_cons, List.length_nil, List.length_set, List.length_take, List.length_drop, List.length_map]; omega) | (simp; omega)))]
    rw [condT (dT (by first | omega | (simp only [List.length_append, List.length_cons, List.length_nil, List.length_set, List.length_take, List.length_drop, List.length_map]; omega) | (simp; omega)))]
    rw [getN _ _ _ hlt, condT (q1_eq _ sc h).1, wsucc (by omega), ih (i + 1) (by omega), dcons hlt]
    simp only [idxBy]
    cases t84_0 xs[i] sc <;> rfl
theorem r125b : R125b := by
  intro a0 sc h
  simp only [Bool.and_eq_true, decide_eq_true_eq] at h
  rw [f125b_run]
  exact go125b a0 h.1 sc h.2 a0.length 0 (by omega)
theorem go124b (xs : List Chord) (hb : xs.length ≤ 1000) (sc : List Int) (h : sc.length ≤ 1000) (hr : xs.all rightC = true) : ∀ (m i : Nat), i + m = xs.length →
    f124bh0 xs xs.length i sc = some ⟨[.dat tI (idxBy (fun o => t83_0 o sc) (xs.drop i) i)], [(0, .box [.slc 1]), (1, .arr tI sc)]⟩ := by
  intro m
  induction m with
  | zero => intro i hi; rw [f124bh0_eq, condF (dlt_not (by omega)), dnil (xs := xs) (i := i) (by omega)]; rfl
  | succ m ih =>
    intro i hi
    have hlt : i < xs.length := by omega
    rw [f124bh0_eq]
    rw [condT (dT (by first | omega | (simp only [List.length_append, List.length_cons, List.length_nil, List.length_set, List.length_take, List.length_drop, List.length_map]; omega) | (simp; omega)))]
    rw [condT (dT (by first | omega | (simp only [List.length_append, List.length_cons, List.length_nil, List.length_set, List.length_take, List.length_drop, List.length_map]; omega) | (simp; omega)))]
    rw [condT (dT (by first | omega | (simp only [List.length_append, List.length_cons, List.length_nil, List.length_set, List.length_take, List.length_drop, List.length_map]; omega) | (simp; omega)))]
    rw [getN _ _ _ hlt, condT (q2_eq _ sc h (all_mem hr (List.getElem_mem hlt))).1, wsucc (by omega), ih (i + 1) (by omega), dcons hlt]
    simp only [idxBy]
    cases t83_0 xs[i] sc <;> rfl
theorem r124b : R124b := by
  intro a0 sc h
  simp only [Bool.and_eq_true, decide_eq_true_eq] at h
  rw [f124b_run]
  exact go124b a0 h.1.1 sc h.1.2 h.2 a0.length 0 (by omega)

def scaleOf (k : Nat) : List Int := majorL.map fun n => ((k : Int) + n).tmod 12
theorem keyQ_eq (l : List Chord) (hr : l.all rightC = true) (k : Nat) (hk : k ≤ 11) : (!l.any (fun c => (tonesR c).any (fun o => t84_0 o (scaleOf k)))) = keyIn l k := by
  unfold keyIn
  congr 1
  refine any_congr' l fun c hc => ?_
  have := keys_of c (mem_allC (all_mem hr hc)) k (List.mem_range.2 (by omega))
  rw [show majorL = [0, 2, 4, 5, 7, 9, 11] from rfl, this]
  refine any_congr' _ fun t ht => ?_
  rw [(q1_eq t (scaleOf k) (by unfold scaleOf; rw [List.length_map]; decide)).2]; rfl

theorem majorL_in : ∀ x ∈ majorL, 0 ≤ x ∧ x ≤ 11 := by decide
theorem in25 (l : List Chord) (hl : l.length ≤ 1000) (hr : l.all rightC = true) (k : Nat) (hk : k ≤ 11) (out : List Int) (ho : out.length ≤ k) : ∀ (m j : Nat) (sc : List Int), j + m = 7 → sc.length = j →
    sc ++ (majorL.drop j).map (fun n => ((k : Int) + n).tmod 12) = scaleOf k →
    f25h2 l k k 7 j out majorL sc = cond (keyIn l k) (f25h0 l ((k + 1 : Nat) : Int) (out ++ [(k : Int)])) (f25h0 l ((k + 1 : Nat) : Int) out) := by
  have hm : majorL.length = 7 := rfl
  intro m
  induction m with
  | zero =>
    intro j sc hj hs he
    rw [dnil (xs := majorL) (i := j) (by omega)] at he
    have he : sc = scaleOf k := by simpa using he
    subst he
    obtain ⟨q1, q2⟩ := q2c_eq l (scaleOf k) (by omega) hl hr
    rw [f25h2_eq, condF (dF (by omega)), condT q1, q2, keyQ_eq l hr k hk, wsucc (by omega)]
    cases keyIn l k with
    | false => rfl
    | true => rw [cond_true, cond_true, condT (dT (by simp; omega))]
  | succ m ih =>
    intro j sc hj hs he
    have hlt : j < majorL.length := by omega
    have hx := majorL_in _ (List.getElem_mem hlt)
    rw [f25h2_eq, condT (dT (by omega))]
    rw [condT (dT (by first | omega | (simp only [List.length_append, List.length_cons, List.length_nil, List.length_set, List.length_take, List.length_drop, List.length_map]; omega) | (simp; omega)))]
    rw [condT (dT (by first | omega | (simp only [List.length_append, List.length_cons, List.length_nil, List.length_set, List.length_take, List.length_drop, List.length_map]; omega) | (simp; omega)))]
    rw [condT (dT (by first | omega | (simp only [List.length_append, List.length_cons, List.length_nil, List.length_set, List.length_take, List.length_drop, List.length_map]; omega) | (simp; omega)))]
    rw [getN _ _ _ hlt, wrap_in (x := (k : Int) + majorL[j]) (by omega) (by omega), c12, condT (dT (by simp; omega)), wsucc (i := j) (by omega)]
    refine ih (j + 1) _ (by omega) (by simp; omega) ?_
    rw [← he, dcons hlt, List.map_cons, List.append_assoc]; rfl

theorem go25 (l : List Chord) (hl : l.length ≤ 1000) (hr : l.all rightC = true) : ∀ (m k : Nat) (out : List Int), k + m = 12 → out.length ≤ k →
    f25h0 l k out = some ⟨[.dat (.slice tI) (out ++ ((List.range' k m).filter fun k => keyIn l k).map (fun (k : Nat) => (k : Int)))], []⟩ := by
  intro m
  induction m with
  | zero => intro k out hk ho; rw [f25h0_eq, condF (dF (by omega))]; simp
  | succ m ih =>
    intro k out hk ho
    rw [f25h0_eq, condT (dT (by omega))]
    have := in25 l hl hr k (by omega) out ho 7 0 [] rfl rfl rfl
    rw [show f25h2 l (k : Int) (k : Int) ((List.length [(0 : Int), (2 : Int), (4 : Int), (5 : Int), (7 : Int), (9 : Int), (11 : Int)] : Nat) : Int) (0 : Int) out [(0 : Int), (2 : Int), (4 : Int), (5 : Int), (7 : Int), (9 : Int), (11 : Int)] ([] : List Int) = _ from this]
    rw [ih (k + 1) out (by omega) (by omega), ih (k + 1) _ (by omega) (by simp; omega), filt_step]
    cases keyIn l k with
    | false => rfl
    | true => rw [cond_true, List.append_assoc]; rfl
theorem r25 : R25 := by
  intro a0 h
  simp only [Bool.and_eq_true, decide_eq_true_eq] at h
  rw [f25_run]
  exact go25 a0 h.1 h.2 12 0 [] rfl (by simp)

end Go.Ev.H

set_option linter.unusedVariables false
namespace Go.Ev
open Go Go.RowKit

theorem pure_sound {P : Program} {G : (Nat → Prop) → Array Obj → Prop} {f : FuncId} {md : List Bool} {ts : List Tc} {ok : Tup ts → Bool} {pat : Fr} {out : Tup ts → FV}
    (hp : ∀ x, fillF pat (undats ts x) = ⟨undats ts x, []⟩) (hr : ∀ x, resFV [out x] = out x)
    (h : ∀ x, ok x = true → ∀ (w : World) (V : Vw) (vals : List Value), V.h = w.heap → G V.S w.heap → RelVs V (undats ts x) vals →
      Calls P f vals.toArray w fun e w' => ∃ u, e = .returned u ∧ RowKit.Below w.heap.size w w' ∧ ∀ V', RelV V' (out x) u) :
    Sound P G f (genS md false pat ts ok (fun x => ⟨[out x], []⟩)) := by
  refine gen_of (P := P) (G := G) (f := f) (fun pk o => ∀ (vals : List Value) (w : World) (loc : Nat → Loc) (S : Nat → Prop), Core pk.reg loc S w.heap → G S w.heap →
    RelVs (view pk.reg loc S w.heap) pk.slots vals →
    Calls P f vals.toArray w fun e w' => ∃ u, e = .returned u ∧ Sm w w' ∧ ∃ loc' S', Ctx (entOf pk loc S w.heap) o.reg loc' S' w'.heap ∧
      (view pk.reg loc S w.heap).le (view o.reg loc' S' w'.heap) ∧ RelV (view o.reg loc' S' w'.heap) (resFV o.slots) u) ?_
  intro x hx vals w loc S hc hg hv
  rw [hp] at hc hv ⊢
  refine (h x hx w (view (Fr.reg ⟨undats ts x, []⟩) loc S w.heap) vals rfl hg hv).mono ?_
  rintro e w' ⟨u, rfl, hb, hu⟩
  refine ⟨u, rfl, ⟨hb.os, hb.output⟩, loc, S, ⟨⟨fun _ => trivial, fun _ _ h => h.elim, fun _ h => h.elim, fun b hb' => Nat.lt_of_lt_of_le (hc.bS b hb') hb.size⟩,
    ⟨hb.size, fun b hb' _ => hb.block b hb', fun _ h => h, fun _ h => .inl h, fun _ h => h.elim, fun _ _ ⟨_, h, _⟩ => h.elim, hc.bS⟩⟩,
    ⟨fun _ _ h => h.elim, fun _ _ _ h => h.elim, fun _ _ _ _ h => h.elim, fun _ _ h => h.elim, fun b hb' => ⟨hb', hb.block b (hc.bS b hb')⟩⟩, ?_⟩
  rw [hr]; exact hu _

theorem enters_plain {P : Program} {f : FuncId} {fn : Func} (hf : P.funcs[f]? = some fn) {b : _} (hb : fn.body = some b) (hn : (fn.name == "runtime.NumGoroutine") = false) : Enters P f :=
  enters_of hf hb hn
end Go.Ev

/-
  DERIVED: THE SHELF's CONTRACTS AT THIS DUMP, IN PLAIN WORDS (tools/lay-plain.mjs out of 'GleeHs.lean', which tools/lay-shelf.mjs wrote): THE SAME DECLARATIONS UNDER THE SAME NAMES: 'import', 'namespace', 'open', 'def', 'theorem' AND NOTHING ELSE: no command of the shelf's: FOR A HAND-IN. Each laying: the table of numbers ('.._ren') and one theorem, a field a fact of the dump's own or the kernel's comparison; each contract: ONE APPLICATION.
-/
namespace Go.Proofs
open Go.Shelf
def Tryd.lays171_ren : Go.Shelf.Ren := ⟨fun | 171 => 112 | 243 => 141 | 246 => 163 | 283 => 191 | 284 => 192 | 285 => 193 | 286 => 194 | 129 => 159 | 317 => 213 | 318 => 214 | 319 => 215 | 320 => 216 | 337 => 226 | 338 => 227 | n => n, fun | 3 => 3 | 9 => 9 | 2 => 2 | 4 => 4 | 171 => 201 | 0 => 0 | 53 => 176 | 37 => 203 | 5 => 5 | 173 => 204 | 212 => 222 | 51 => 174 | 20 => 20 | 213 => 223 | 46 => 154 | 232 => 245 | 233 => 246 | n => n, fun | 17 => 1 | 18 => 6 | 19 => 7 | n => n⟩
theorem Tryd.lays171 : Go.Proofs.Lays.n171 Tryd.prog Tryd.lays171_ren := {
  mixed := by kernel_rfl
  f129 := Tryd.func159.trans (congrArg some (by kernel_rfl))
  f171 := Tryd.func112.trans (congrArg some (by kernel_rfl))
  f243 := Tryd.func141.trans (congrArg some (by kernel_rfl))
  f246 := Tryd.func163.trans (congrArg some (by kernel_rfl))
  f283 := Tryd.func191.trans (congrArg some (by kernel_rfl))
  f284 := Tryd.func192.trans (congrArg some (by kernel_rfl))
  f285 := Tryd.func193.trans (congrArg some (by kernel_rfl))
  f286 := Tryd.func194.trans (congrArg some (by kernel_rfl))
  f317 := Tryd.func213.trans (congrArg some (by kernel_rfl))
  f318 := Tryd.func214.trans (congrArg some (by kernel_rfl))
  f319 := Tryd.func215.trans (congrArg some (by kernel_rfl))
  f320 := Tryd.func216.trans (congrArg some (by kernel_rfl))
  f337 := Tryd.func226.trans (congrArg some (by kernel_rfl))
  f338 := Tryd.func227.trans (congrArg some (by kernel_rfl))
  t0 := Tryd.underlying0
  a0 := Tryd.isAgg0
  z0 := Tryd.sizeOf0
  v0 := Tryd.zeroValue0
  t2 := Tryd.underlying2
  a2 := Tryd.isAgg2
  z2 := Tryd.sizeOf2
  v2 := Tryd.zeroValue2
  t3 := Tryd.underlying3
  a3 := Tryd.isAgg3
  z3 := Tryd.sizeOf3
  v3 := Tryd.zeroValue3
  t4 := Tryd.underlying4
  a4 := Tryd.isAgg4
  z4 := Tryd.sizeOf4
  v4 := Tryd.zeroValue4
  t5 := Tryd.underlying5
  a5 := Tryd.isAgg5
  z5 := Tryd.sizeOf5
  v5 := Tryd.zeroValue5
  t9 := Tryd.underlying9
  a9 := Tryd.isAgg9
  z9 := Tryd.sizeOf9
  v9 := Tryd.zeroValue9
  t20 := Tryd.underlying20
  a20 := Tryd.isAgg20
  z20 := Tryd.sizeOf20
  v20 := Tryd.zeroValue20
  t37 := Tryd.underlying203
  a37 := Tryd.isAgg203
  z37 := Tryd.sizeOf203
  v37 := Tryd.zeroValue203
  t46 := Tryd.underlying154
  a46 := Tryd.isAgg154
  z46 := Tryd.sizeOf154
  v46 := Tryd.zeroValue154
  t51 := Tryd.underlying174
  a51 := Tryd.isAgg174
  z51 := Tryd.sizeOf174
  v51 := Tryd.zeroValue174
  t53 := Tryd.underlying176
  a53 := Tryd.isAgg176
  z53 := Tryd.sizeOf176
  v53 := Tryd.zeroValue176
  t171 := Tryd.underlying201
  a171 := Tryd.isAgg201
  z171 := Tryd.sizeOf201
  v171 := Tryd.zeroValue201
  t173 := Tryd.underlying204
  a173 := Tryd.isAgg204
  z173 := Tryd.sizeOf204
  v173 := Tryd.zeroValue204
  t212 := Tryd.underlying222
  a212 := Tryd.isAgg222
  z212 := Tryd.sizeOf222
  v212 := Tryd.zeroValue222
  t213 := Tryd.underlying223
  a213 := Tryd.isAgg223
  z213 := Tryd.sizeOf223
  t232 := Tryd.underlying245
  a232 := Tryd.isAgg245
  z232 := Tryd.sizeOf245
  v232 := Tryd.zeroValue245
  t233 := Tryd.underlying246
  a233 := Tryd.isAgg246
  z233 := Tryd.sizeOf246
  v233 := Tryd.zeroValue246
  g17 := by kernel_rfl
  g18 := by kernel_rfl
  g19 := by kernel_rfl }
end Go.Proofs

set_option linter.unusedVariables false
set_option linter.unusedSimpArgs false
namespace Go.Ev.H
open Go Go.Ev Go.Proofs
/-! ### all chords -/
def chK (r k : Nat) : List Chord := (List.range (kindT (k : Int)).length).map fun (t : Nat) => ((r : Int), (k : Int), (t : Int))
def chR (r j m : Nat) : List Chord := (List.range' j m).flatMap fun k => chK r k
theorem kindT_le (k : Nat) (h : k ≤ 7) : (kindT (k : Int)).length ≤ 4 := (kindT_in k (List.mem_range.2 (by omega))).1
theorem chK_len (r k : Nat) (h : k ≤ 7) : (chK r k).length ≤ 4 := by unfold chK; rw [List.length_map, List.length_range]; exact kindT_le k h
theorem chR_succ (r j m : Nat) : chR r j (m + 1) = chK r j ++ chR r (j + 1) m := by unfold chR; rw [range1, List.flatMap_cons]

theorem go480 (r k : Nat) : ∀ (m t : Nat) (acc : List Chord), t + m = (kindT (k : Int)).length → acc.length + m ≤ 1000 → (kindT (k : Int)).length ≤ 4 →
    f80h4 r k r (kindT (k : Int)).length t acc = f80h2 r (wrap .i64 ((k : Int) + 1)) r (acc ++ (List.range' t m).map fun (t : Nat) => ((r : Int), (k : Int), (t : Int)))
  | 0, t, acc, ht, ha, h4 => by rw [f80h4_eq, condF (dlt_not (by omega))]; simp
  | m + 1, t, acc, ht, ha, h4 => by
    rw [f80h4_eq, condT (dlt (by omega)), condT (dT (by simp; omega)), wsucc (by omega), go480 r k m (t + 1) _ (by omega) (by simp; omega) h4, range1, List.map_cons, List.append_assoc]; rfl

theorem go280 (r : Nat) : ∀ (m j : Nat) (acc : List Chord), j + m = 8 → 1 ≤ j → acc.length + 4 * m ≤ 1000 →
    ∃ out : List Chord, out = chR r j m ∧ out.length ≤ 4 * m ∧ f80h2 r j r acc = f80h0 (wrap .i64 ((r : Int) + 1)) (acc ++ out)
  | 0, j, acc, hj, h1, ha => ⟨[], rfl, by simp, by rw [f80h2_eq, condF (dF (by omega))]; simp⟩
  | m + 1, j, acc, hj, h1, ha => by
    have h4 := kindT_le j (by omega)
    have hl := chK_len r j (by omega)
    obtain ⟨out, e1, e2, e3⟩ := go280 r m (j + 1) (acc ++ chK r j) (by omega) (by omega) (by rw [List.length_append]; omega)
    refine ⟨chK r j ++ out, by rw [chR_succ, e1], by rw [List.length_append]; omega, ?_⟩
    rw [f80h2_eq, condT (dT (by omega)), condT (by simp; omega)]
    have := go480 r j (kindT (j : Int)).length 0 acc (by omega) (by omega) h4
    rw [show (0 : Int) = ((0 : Nat) : Int) from rfl, this, wsucc (by omega), ← List.range_eq_range']
    show f80h2 _ _ _ (acc ++ chK r j) = _
    rw [e3, List.append_assoc]

theorem go080 : ∀ (m r : Nat) (acc : List Chord), r + m = 12 → acc.length + 28 * m ≤ 1000 →
    f80h0 r acc = some ⟨[.slc 0], [(0, .arr tChord (acc ++ (List.range' r m).flatMap fun r => chR r 1 7))]⟩
  | 0, r, acc, hr, ha => by rw [f80h0_eq, condF (dF (by omega))]; simp
  | m + 1, r, acc, hr, ha => by
    obtain ⟨out, e1, e2, e3⟩ := go280 r 7 1 acc rfl (by omega) (by omega)
    rw [f80h0_eq, condT (dT (by omega)), show (1 : Int) = ((1 : Nat) : Int) from rfl, e3, wsucc (by omega), go080 m (r + 1) _ (by omega) (by rw [List.length_append]; omega),
      range1, List.flatMap_cons, List.append_assoc, e1]
theorem allC_eq : ((List.range' 0 12).flatMap fun r => chR r 1 7) = allC := by decide +kernel
theorem r80 : R80 := by
  intro _
  rw [f80_run, ← allC_eq]
  exact go080 12 0 [] rfl (by simp)

/-! ### the chords of notes -/
theorem equalI_eq (a b : List Int) : equalI a b = (a == b) := rfl
theorem o1_eq (c : Chord) (ns : List Int) (hc : rightC c = true) (h1 : ns.length ≤ 12) (h0 : 0 < ns.length) : t81_ok c ns = true ∧ t81_0 c ns = (!ofP (classI ns) ((minI ns).tmod 12) c) := by
  have hl := tones_len _ (mem_allC hc)
  have hk := classI_len (tonesR c)
  unfold t81_ok t81_0 t81
  rw [eta_c, hc, dT (p := (tonesR c).length ≤ 12) (by omega), dT h1, dT (p := (classI (tonesR c)).length ≤ 1000000) (by omega), dT (p := (0 : Int) < ((tonesR c).length : Nat)) (by omega), dT h0, dT (p := ns.length ≤ 1000) (by omega), equalI_eq]
  unfold ofP headC
  cases h : classI (tonesR c) == classI ns with
  | false => exact ⟨rfl, rfl⟩
  | true =>
    refine ⟨rfl, ?_⟩
    show (!((tonesR c).getD 0 0 == (minI ns).tmod 12)) = (!(!(!true || !((tonesR c).getD 0 0 == (minI ns).tmod 12))))
    cases (tonesR c).getD 0 0 == (minI ns).tmod 12 <;> rfl

theorem go124a (xs : List Chord) (hb : xs.length ≤ 1000) (ns : List Int) (h1 : ns.length ≤ 12) (h0 : 0 < ns.length) (hr : xs.all rightC = true) : ∀ (m i : Nat), i + m = xs.length →
    f124ah0 xs.length i xs ns = some ⟨[.dat tI (idxBy (fun o => t81_0 o ns) (xs.drop i) i)], [(0, .arr tChord xs), (1, .box [.dat (.slice tI) ns])]⟩ := by
  intro m
  induction m with
  | zero => intro i hi; rw [f124ah0_eq, condF (dlt_not (by omega)), dnil (xs := xs) (i := i) (by omega)]; rfl
  | succ m ih =>
    intro i hi
    have hlt : i < xs.length := by omega
    rw [f124ah0_eq]
    rw [condT (dT (by first | omega | (simp only [List.length_append, List.length_cons, List.length_nil, List.length_set, List.length_take, List.length_drop, List.length_map]; omega) | (simp; omega)))]
    rw [condT (dT (by first | omega | (simp only [List.length_append, List.length_cons, List.length_nil, List.length_set, List.length_take, List.length_drop, List.length_map]; omega) | (simp; omega)))]
    rw [condT (dT (by first | omega | (simp only [List.length_append, List.length_cons, List.length_nil, List.length_set, List.length_take, List.length_drop, List.length_map]; omega) | (simp; omega)))]
    rw [condT (dT (by first | omega | (simp only [List.length_append, List.length_cons, List.length_nil, List.length_set, List.length_take, List.length_drop, List.length_map]; omega) | (simp; omega)))]
    rw [getN _ _ _ hlt, condT (o1_eq _ ns (all_mem hr (List.getElem_mem hlt)) h1 h0).1, wsucc (by omega), ih (i + 1) (by omega), dcons hlt]
    simp only [idxBy]
    cases t81_0 xs[i] ns <;> rfl
theorem r124a : R124a := by
  intro a0 ns h
  simp only [Bool.and_eq_true, decide_eq_true_eq] at h
  rw [f124a_run]
  exact go124a a0 h.1.1.1 ns h.1.1.2 h.1.2 h.2 a0.length 0 (by omega)

theorem idxBy_split {α : Type} (p : α → Bool) : ∀ (l : List α) (s : Nat), (idxBy p l s = -1 ∧ l.filter (fun o => !p o) = l) ∨
    ∃ n, n < l.length ∧ idxBy p l s = ((s + n : Nat) : Int) ∧ l.take n ++ (l.drop (n + 1)).filter (fun o => !p o) = l.filter (fun o => !p o)
  | [], s => .inl ⟨rfl, rfl⟩
  | x :: l, s => by
    cases hx : p x with
    | true => exact .inr ⟨0, by simp, by simp [idxBy, hx], by simp [hx]⟩
    | false =>
      rcases idxBy_split p l (s + 1) with ⟨h1, h2⟩ | ⟨n, h1, h2, h3⟩
      · refine .inl ⟨?_, ?_⟩
        · simp only [idxBy, hx, cond_false]; exact h1
        · rw [List.filter_cons, hx]; simp only [Bool.not_false, if_true]; rw [h2]
      · refine .inr ⟨n + 1, by simp; omega, ?_, ?_⟩
        · simp only [idxBy, hx, cond_false]; rw [h2]; congr 1; omega
        · rw [List.take_succ_cons, List.drop_succ_cons, List.filter_cons, hx]; simp only [Bool.not_false, if_true]; rw [← h3]; rfl

theorem go79 (ns : List Int) (h1 : ns.length ≤ 12) (h0 : 0 < ns.length) : ∀ (m i j : Nat) (s : List Chord), j + m = s.length → i < j → s.length ≤ 1000 → (∀ c ∈ s.drop j, rightC c = true) →
    f79h0 i j s ns = some ⟨[.dat (.slice tChord) (s.take i ++ (s.drop j).filter (fun o => !t81_0 o ns))], [(0, .dead), (1, .box [.dat (.slice tI) ns])]⟩
  | 0, i, j, s, hm, hij, hl, hr => by
    rw [f79h0_eq, condF (dlt_not (by omega)), dnil (xs := s) (i := j) (by omega)]
    repeat (rw [condT (dT (by first | omega | (simp only [List.length_append, List.length_cons, List.length_nil, List.length_set, List.length_take, List.length_drop, List.length_map]; omega) | (simp; omega)))])
    simp only [List.filter_nil, List.append_nil, Int.toNat_natCast, Int.toNat_zero, List.drop_zero]
    rw [List.take_left' (l₁ := s.take i) (by rw [List.length_take]; omega)]
  | m + 1, i, j, s, hm, hij, hl, hr => by
    have hlt : j < s.length := by omega
    have hc := hr s[j] (by rw [dcons hlt]; exact List.mem_cons_self ..)
    have hr' : ∀ c ∈ s.drop (j + 1), rightC c = true := fun c h => hr c (by rw [dcons hlt]; exact List.mem_cons_of_mem _ h)
    rw [f79h0_eq]
    rw [condT (dT (by first | omega | (simp only [List.length_append, List.length_cons, List.length_nil, List.length_set, List.length_take, List.length_drop, List.length_map]; omega) | (simp; omega)))]
    rw [condT (dT (by first | omega | (simp only [List.length_append, List.length_cons, List.length_nil, List.length_set, List.length_take, List.length_drop, List.length_map]; omega) | (simp; omega)))]
    rw [condT (dT (by first | omega | (simp only [List.length_append, List.length_cons, List.length_nil, List.length_set, List.length_take, List.length_drop, List.length_map]; omega) | (simp; omega)))]
    rw [condT (dT (by first | omega | (simp only [List.length_append, List.length_cons, List.length_nil, List.length_set, List.length_take, List.length_drop, List.length_map]; omega) | (simp; omega)))]
    rw [getN _ _ _ hlt, eta_c, condT (o1_eq _ ns hc h1 h0).1, wsucc (i := j) (by omega), dcons hlt, List.filter_cons]
    cases hp : t81_0 s[j] ns with
    | true =>
      simp only [Bool.not_true, cond_false]
      exact go79 ns h1 h0 m i (j + 1) s (by omega) (by omega) hl hr'
    | false =>
      simp only [Bool.not_false, cond_true, if_true]
      repeat (rw [condT (dT (by first | omega | (simp only [List.length_append, List.length_cons, List.length_nil, List.length_set, List.length_take, List.length_drop, List.length_map]; omega) | (simp; omega)))])
      rw [wsucc (by omega), Int.toNat_natCast]
      have e1 : (s.set i s[j]).drop (j + 1) = s.drop (j + 1) := List.drop_set_of_lt (by omega)
      have e2 : (s.set i s[j]).take (i + 1) = s.take i ++ [s[j]] := by
        rw [List.take_add_one, List.take_set_of_le (Nat.le_refl i), List.getElem?_set_self (by omega)]; rfl
      rw [go79 ns h1 h0 m (i + 1) (j + 1) (s.set i s[j]) (by rw [List.length_set]; omega) (by omega) (by rw [List.length_set]; omega) (by rw [e1]; exact hr'), e1, e2, List.append_assoc]; rfl
theorem r79 : R79 := by
  intro a0 ns h
  have h' := h
  simp only [Bool.and_eq_true, decide_eq_true_eq] at h
  obtain ⟨⟨⟨h1, h2⟩, h3⟩, h4⟩ := h
  rw [f79_run, condT h']
  rcases idxBy_split (fun o => t81_0 o ns) a0 0 with ⟨e1, e2⟩ | ⟨n, hn, e1, e2⟩
  · rw [e1, e2]; rfl
  · rw [e1, condF (by rw [beq_eq_false_iff_ne]; omega), wsucc (by omega), Nat.zero_add, ← e2]
    exact go79 ns h2 h3 (a0.length - (n + 1)) n (n + 1) a0 (by omega) (by omega) h1 (fun c hc => all_mem h4 (List.mem_of_mem_drop hc))

theorem filter_congr' {α : Type} {p q : α → Bool} : ∀ (l : List α), (∀ x ∈ l, p x = q x) → l.filter p = l.filter q
  | [], _ => rfl
  | x :: l, h => by rw [List.filter_cons, List.filter_cons, h x (List.mem_cons_self ..), filter_congr' l (fun y hy => h y (List.mem_cons_of_mem _ hy))]

theorem allC_len : allC.length = 288 := by decide +kernel
theorem allC_right : allC.all rightC = true := by decide +kernel
theorem r22 : R22 := by
  intro a0 h
  simp only [Bool.and_eq_true, decide_eq_true_eq] at h
  rw [f22_run, condT (by rw [allC_len, allC_right, dT h.1, dT h.2]; rfl)]
  rw [← of_eq (notes := a0) (by intro e; subst e; simp at h)]
  rw [filter_congr' (p := fun o => !t81_0 o a0) (q := ofP (classI a0) ((minI a0).tmod 12)) allC fun c hc => by
    show (!t81_0 c a0) = _
    rw [(o1_eq c a0 (right_all c hc) h.1 h.2).2, Bool.not_not]]

def ofR (all : List Int) (low : Int) (r j m : Nat) : List Chord := (List.range' j m).flatMap fun k => ofOne all low r k
theorem ofOne_len (all : List Int) (low : Int) (r k : Nat) : (ofOne all low r k).length ≤ 1 := by
  unfold ofOne
  cases classI (tonesR ((r : Int), ((k + 1 : Nat) : Int), 0)) == all <;> simp
theorem ofR_len (all : List Int) (low : Int) (r : Nat) : ∀ (m j : Nat), (ofR all low r j m).length ≤ m
  | 0, j => by simp [ofR]
  | m + 1, j => by
    have := ofR_len all low r m (j + 1)
    have := ofOne_len all low r j
    unfold ofR at *
    rw [range1, List.flatMap_cons, List.length_append]; omega
theorem right0 {r k : Nat} (h1 : r ≤ 11) (h2 : 1 ≤ k) (h3 : k ≤ 7) : rightC ((r : Int), ((k : Int), (0 : Int))) = true := right_root (by omega) (by omega) (by omega) (by omega) (by omega) (by omega)

theorem go213 (all : List Int) (low : Int) (r : Nat) (hr : r ≤ 11) : ∀ (m j : Nat) (acc : List Chord), j + m = 7 → acc.length + m ≤ 1000 →
    f13h2 all low r ((j + 1 : Nat) : Int) r acc = f13h0 all low (wrap .i64 ((r : Int) + 1)) (acc ++ ofR all low r j m)
  | 0, j, acc, hj, ha => by rw [f13h2_eq, condF (dF (by omega))]; simp [ofR]
  | m + 1, j, acc, hj, ha => by
    have hc := right0 (r := r) (k := j + 1) hr (by omega) (by omega)
    have hl := tones_len _ (mem_allC hc)
    have hk := classI_len (tonesR ((r : Int), (((j + 1 : Nat) : Int), (0 : Int))))
    have e : ofR all low r j (m + 1) = ofOne all low r j ++ ofR all low r (j + 1) m := by unfold ofR; rw [range1, List.flatMap_cons]
    rw [f13h2_eq, condT (dT (by omega)), condT hc, condT (dT (by omega)), condT (dT (by omega)), wsucc (by omega), equalI_eq, e]
    unfold ofOne
    cases h : classI (tonesR ((r : Int), (((j + 1 : Nat) : Int), (0 : Int)))) == all with
    | false =>
      rw [cond_false, cond_false, go213 all low r hr m (j + 1) acc (by omega) (by omega)]; rfl
    | true =>
      rw [cond_true, cond_true, condT (dT (by omega)), condT (dT (by simp; omega)), go213 all low r hr m (j + 1) _ (by omega) (by simp; omega), List.append_assoc]
theorem go013 (all : List Int) (low : Int) : ∀ (m r : Nat) (acc : List Chord), r + m = 12 → acc.length + 7 * m ≤ 900 →
    f13h0 all low r acc = some ⟨[.dat (.slice tChord) (acc ++ (List.range' r m).flatMap fun r => ofR all low r 0 7), .dat tI 0], []⟩
  | 0, r, acc, hr, ha => by rw [f13h0_eq, condF (dF (by omega))]; simp
  | m + 1, r, acc, hr, ha => by
    have hl := ofR_len all low r 7 0
    rw [f13h0_eq, condT (dT (by omega)), show (1 : Int) = ((0 + 1 : Nat) : Int) from rfl, go213 all low r (by omega) 7 0 acc rfl (by omega), wsucc (by omega), go013 all low m (r + 1) _ (by omega) (by rw [List.length_append]; omega),
      range1, List.flatMap_cons, List.append_assoc]

theorem notesF_ok {l : List Int} {most : Nat} (h : notesF l most = 0) : 0 < l.length ∧ l.length ≤ most ∧ ∀ x ∈ l, 0 ≤ x ∧ x ≤ 127 := by
  unfold notesF at h
  cases h1 : (l.length : Int) == 0 with
  | true => rw [h1] at h; cases h
  | false =>
    rw [h1] at h
    cases h2 : decide ((l.length : Int) > most) with
    | true => rw [h2] at h; cases h
    | false =>
      rw [h2] at h
      cases h3 : l.any (fun n => outside n 0 127) with
      | true => rw [h3] at h; cases h
      | false =>
        have a1 : ¬ (l.length : Int) = 0 := by simpa using beq_eq_false_iff_ne.1 h1
        have a2 : ¬ (l.length : Int) > most := by simpa using h2
        refine ⟨by omega, by omega, fun x hx => ?_⟩
        have := List.any_eq_false.1 h3 x hx
        exact outside_false (by simpa using this)

theorem r13 : R13 := by
  intro a0 _
  rw [f13_run, condT (by rfl)]
  unfold ofF
  show cond (!(notesF a0 12 == 0)) _ _ = _
  cases h : notesF a0 12 == 0 with
  | false => rfl
  | true =>
    obtain ⟨h1, h2, h3⟩ := notesF_ok (l := a0) (most := 12) (by simpa using h)
    simp only [Bool.not_true, cond_false]
    rw [condT (dT h2), condT (by rw [dT h1, dT (p := a0.length ≤ 1000) (by omega)]; rfl), c12]
    have := go013 (classI a0) ((minI a0).tmod 12) 12 0 [] rfl (by simp)
    rw [show (0 : Int) = ((0 : Nat) : Int) from rfl, this, List.nil_append, ← List.range_eq_range']
    unfold ofL ofR
    simp only [← List.range_eq_range']
    rfl

/-! ### names -/
theorem small_nat (n : Int) (h : (decide (0 ≤ n) && decide (n ≤ 99)) = true) : ∃ k : Nat, n = (k : Int) ∧ k < 100 := by
  simp only [Bool.and_eq_true, decide_eq_true_eq] at h
  exact ⟨n.toNat, by omega, by omega⟩
theorem r112 : R112 := by
  refine ⟨pure_sound (P := Tryd.prog) (G := En0.gl) (ts := [tI]) (out := fun x => .dat .str (itoaB x.1)) (fun _ => rfl) (fun _ => rfl) ?_, enters_of Tryd.func112 rfl rfl⟩
  rintro ⟨n, _⟩ hok w V vals hV _ ⟨u1, us, rfl, h1, rfl⟩
  cases h1
  obtain ⟨k, hk, hk2⟩ := small_nat n hok
  subst hk
  refine (Any.strconv_Itoa_small Tryd.lays171 k hk2 w).mono ?_
  rintro e w' ⟨rfl, rfl⟩
  exact ⟨_, rfl, RowKit.Below.refl _ _, fun _ => rfl⟩

theorem digits1 : itoaB 1 = [49] := by
  unfold itoaB
  rw [Lib.decDigits]; rfl
theorem sounded_eq : t56 ((1 : Int), ((2 : Int), (1 : Int))) = some ([99, 35, 32, 109, 105, 110, 47, 49], 0) := by
  unfold t56
  rw [digits1]
  decide +kernel
theorem r28 : R28 := by
  intro _
  rw [f28_run]
  unfold t56_ok t56_0 t56_1
  rw [sounded_eq]
  rfl

end Go.Ev.H

set_option linter.unusedVariables false
set_option linter.unusedSimpArgs false
namespace Go.Ev.H
open Go Go.Ev Go.Proofs
theorem ofL_len (all : List Int) (low : Int) : (ofL all low).length ≤ 84 := by
  unfold ofL
  have h : ∀ (m r : Nat), ((List.range' r m).flatMap fun (r : Nat) => (List.range 7).flatMap fun (k : Nat) => ofOne all low r k).length ≤ 7 * m := by
    intro m
    induction m with
    | zero => intro r; simp
    | succ m ih =>
      intro r
      have h1 := ih (r + 1)
      have h2 := ofR_len all low r 7 0
      unfold ofR at h2
      rw [← List.range_eq_range'] at h2
      rw [range1, List.flatMap_cons, List.length_append]; omega
  have := h 12 0
  rw [← List.range_eq_range'] at this
  exact this
theorem of2 (n : List Int) : (ofF n).2 = notesF n 12 := by
  unfold ofF
  cases h : notesF n 12 == 0 with
  | false => rfl
  | true => have h : notesF n 12 = 0 := by simpa using h
            rw [h]; rfl
theorem of1t {n : List Int} (h : (notesF n 12 == 0) = true) : (ofF n).1 = ofL (classI n) ((minI n).tmod 12) := by unfold ofF; rw [h]; rfl
theorem of1f {n : List Int} (h : (notesF n 12 == 0) = false) : (ofF n).1 = [] := by unfold ofF; rw [h]; rfl
theorem of1l (n : List Int) : (ofF n).1.length ≤ 1000 := by
  cases h : notesF n 12 == 0 with
  | false => rw [of1f h]; simp
  | true => rw [of1t h]; have := ofL_len (classI n) ((minI n).tmod 12); omega
theorem rowGo2 (a b : Chord) : rowGo [a, b] = firstE [chordF a, chordF b] := rfl
theorem sh2 (a b : Chord) : (sharedF a b).2 = firstE [chordF a, chordF b] := by
  rw [← rowGo2]
  unfold sharedF
  cases h : rowGo [a, b] == 0 with
  | false => rfl
  | true => have h : rowGo [a, b] = 0 := by simpa using h
            rw [h]; rfl
theorem sh1t {a b : Chord} (h : (firstE [chordF a, chordF b] == 0) = true) : (sharedF a b).1 = sharedN a b := by
  rw [← rowGo2] at h; unfold sharedF; rw [h]; rfl
theorem sh1f {a b : Chord} (h : (firstE [chordF a, chordF b] == 0) = false) : (sharedF a b).1 = 0 := by
  rw [← rowGo2] at h; unfold sharedF; rw [h]; rfl
theorem first2 {x y : Int} (h : (firstE [x, y] == 0) = true) : x = 0 ∧ y = 0 := by
  have h : firstE [x, y] = 0 := by simpa using h
  unfold firstE firstE firstE at h
  cases hx : x == 0 with
  | false => rw [hx] at h; exact absurd h (by simpa using hx)
  | true =>
    rw [hx] at h
    cases hy : y == 0 with
    | false => rw [hy] at h; exact absurd h (by simpa using hy)
    | true => exact ⟨by simpa using hx, by simpa using hy⟩
theorem keys2 (r : List Chord) : (keysF r).2 = rowF r 144 := by
  unfold keysF
  cases h : rowF r 144 == 0 with
  | false => rfl
  | true => have h : rowF r 144 = 0 := by simpa using h
            rw [h]; rfl
theorem keys1t {r : List Chord} (h : (rowF r 144 == 0) = true) : (keysF r).1 = keysL r := by unfold keysF; rw [h]; rfl
theorem keys1f {r : List Chord} (h : (rowF r 144 == 0) = false) : (keysF r).1 = [] := by unfold keysF; rw [h]; rfl
theorem keysL_len (r : List Chord) : (keysL r).length ≤ 12 := by
  unfold keysL
  rw [List.length_map]
  exact Nat.le_trans (List.length_filter_le _ _) (by simp)
theorem keys1l (r : List Chord) : (keysF r).1.length ≤ 1000000 := by
  cases h : rowF r 144 == 0 with
  | false => rw [keys1f h]; simp
  | true => rw [keys1t h]; have := keysL_len r; omega
theorem row_ok {r : List Chord} (h : (rowF r 144 == 0) = true) : r.length ≤ 144 ∧ r.all rightC = true := by
  have h0 : rowF r 144 = 0 := by simpa using h
  unfold rowF at h0
  cases hc : decide ((r.length : Int) > 144) with
  | true => rw [hc] at h0; cases h0
  | false =>
    rw [hc] at h0
    have : ¬ (r.length : Int) > 144 := by simpa using hc
    exact ⟨by omega, rowGo_right r h0⟩

theorem shift_facts (a : Chord) (by_ : Int) : t15_ok a by_ = true ∧ t24_ok a by_ = true ∧ t15_1 a by_ = firstE [chordF a, cond (outside by_ (-127) 127) 1 0] ∧
    (t15_1 a by_ = 0 → t15_0 a by_ = t24_0 a by_) ∧ (t15_1 a by_ ≠ 0 → t15_0 a by_ = (0, (0, 0))) := by
  have e : t15 a by_ = cond (!(chordF a == 0)) (some ((0, (0, 0)), chordF a)) (cond (outside by_ (-127) 127) (some ((0, (0, 0)), 1)) (some ((Int.tmod (wrap .i64 ((Int.tmod (wrap .i64 (a.1 + by_)) 12) + 12)) 12, (a.2.1, a.2.2)), 0))) := rfl
  unfold t15_ok t24_ok t15_1 t15_0 t24_0
  rw [e]
  unfold firstE firstE firstE
  cases h1 : chordF a == 0 with
  | false =>
    have hn : chordF a ≠ 0 := by simpa using h1
    exact ⟨rfl, rfl, rfl, fun h => absurd h hn, fun _ => rfl⟩
  | true =>
    cases outside by_ (-127) 127 with
    | true => exact ⟨rfl, rfl, rfl, fun h => absurd (show (1 : Int) = 0 from h) (by decide), fun _ => rfl⟩
    | false => exact ⟨rfl, rfl, rfl, fun _ => rfl, fun h => absurd rfl h⟩

theorem beqT {α : Type} [BEq α] [LawfulBEq α] {a b : α} (h : a = b) : (a == b) = true := by rw [h]; exact beq_self_eq_true _
theorem cbeqT {a b : Chord} (h : a = b) : Tc.beq tChord a b = true := by rw [h]; show (b == b) = true; exact beq_self_eq_true _

theorem r3 : R3 := by
  intro a0 _
  rw [f3_run]
  have k1 : atOk 1000 0 = true := rfl
  have p1 := (aNotes_spec a0 0 k1).1
  refine (condT k1).trans ?_
  generalize aNotes a0 0 = P at p1 ⊢
  obtain ⟨p1, p2, p3⟩ := p1
  have k2 : atOk 30 P.1 = true := atOk_t p1 (by omega)
  have q1 := (aChord_spec a0 P.1 k2).1
  refine (condT k2).trans ?_
  generalize aChord a0 P.1 = A at q1 ⊢
  have k3 : atOk 30 A.1 = true := atOk_t (by omega) (by omega)
  have q2 := (aChord_spec a0 A.1 k3).1
  refine (condT k3).trans ?_
  generalize aChord a0 A.1 = B at q2 ⊢
  refine (condT (atOk_and (by omega) (by omega) rfl rfl)).trans ?_
  have e1 := nextAt_s (a := B.1) (by omega) (by omega)
  have e2 := rangeAt_s (a := B.1 + 1) (lo := 0) (hi := 4) (by omega) (by omega) (by omega)
  have e3 := rangeS_in a0 (B.1 + 1) (lo := 0) (hi := 4) (by omega) (by omega) (by omega)
  rw [e1, e2]
  generalize rangeS a0 (B.1 + 1) 0 4 = many at e3 ⊢
  refine (condT (atOk_t (by omega) (by omega))).trans ?_
  have k6 : (atOk 1000 (B.1 + 1 + 1) && decide (0 ≤ many) && decide (many ≤ 5)) = true := atOk_and (by omega) (by omega) (dT e3.1) (dT (by omega))
  have q3 := (aChords_spec a0 (B.1 + 1 + 1) many k6).1.2.2
  refine (condT k6).trans ?_
  generalize (aChords a0 (B.1 + 1 + 1) many).2 = r at q3 ⊢
  generalize pick a0 B.1 [(0 : Int), (1 : Int), (7 : Int), (-5 : Int), (127 : Int), (-127 : Int), (128 : Int), (-128 : Int)] = by_
  obtain ⟨s1, s2, s3, s4, s5⟩ := shift_facts A.2 by_
  refine (condT s1).trans ?_
  refine (condT rfl).trans ?_
  refine (condT (dT (by simp))).trans ?_
  have main : ∀ w : Int, w = cond (outside by_ (-127) 127) 1 0 → t15_1 A.2 by_ = firstE [chordF A.2, w] := fun w h => by rw [h]; exact s3
  refine condB (fun hb => ?_) (fun hb => ?_)
  · have hw : t20_0 true 1 = cond (outside by_ (-127) 127) 1 0 := by
      unfold outside; rw [hb]; rfl
    have s3 := main _ hw
    generalize t20_0 true 1 = w at s3 ⊢
    clear main hw
    refine (condT (dT (by simp))).trans ?_
    refine (condT rfl).trans ?_
    refine condB (fun h1 => ?_) (fun h1 => ?_)
    all_goals first
      | (have hn := notesF_ok (l := P.2) (most := 12) (by simpa using h1)
         refine (condT (by rw [dT hn.2.1, dT hn.1]; rfl)).trans ?_)
      | skip
    all_goals refine condB (fun h2 => ?_) (fun h2 => ?_)
    all_goals first
      | (have hc := first2 h2
         refine (condT (by rw [Bool.and_eq_true]; exact ⟨chordF_right hc.1, chordF_right hc.2⟩)).trans ?_)
      | skip
    all_goals refine condB (fun h3 => ?_) (fun h3 => ?_)
    all_goals first
      | refine (condT s2).trans ?_
      | skip
    all_goals refine condB (fun h4 => ?_) (fun h4 => ?_)
    all_goals first
      | (have hr := row_ok h4
         refine (condT (by rw [Bool.and_eq_true]; exact ⟨dT (by omega), hr.2⟩)).trans ?_)
      | skip
    all_goals
      refine (condT (beqT (of2 P.2))).trans ?_
      refine (condT (dT (of1l P.2))).trans ?_
    all_goals first
      | refine (condT (beqT (of1t h1))).trans ?_
      | refine (condT (beqT (of1f h1))).trans ?_
    all_goals refine (condT (beqT (sh2 A.2 B.2))).trans ?_
    all_goals first
      | refine (condT (beqT (sh1t h2))).trans ?_
      | refine (condT (beqT (sh1f h2))).trans ?_
    all_goals refine (condT (beqT s3)).trans ?_
    all_goals first
      | refine (condT (cbeqT (s4 (s3.trans (by simpa using h3))))).trans ?_
      | refine (condT (cbeqT (s5 (fun h => by rw [s3] at h; rw [h] at h3; cases h3)))).trans ?_
    all_goals
      refine (condT (beqT (keys2 r))).trans ?_
      refine (condT (dT (keys1l r))).trans ?_
    all_goals first
      | refine (condT (beqT (keys1t h4))).trans ?_
      | refine (condT (beqT (keys1f h4))).trans ?_
    all_goals rfl
  · have hw : t20_0 (decide (by_ > 127)) 1 = cond (outside by_ (-127) 127) 1 0 := by
      unfold outside; rw [hb, Bool.false_or]
      unfold t20_0 t20
      rfl
    have s3 := main _ hw
    generalize t20_0 (decide (by_ > 127)) 1 = w at s3 ⊢
    clear main hw
    refine (condT (dT (by simp))).trans ?_
    refine (condT rfl).trans ?_
    refine condB (fun h1 => ?_) (fun h1 => ?_)
    all_goals first
      | (have hn := notesF_ok (l := P.2) (most := 12) (by simpa using h1)
         refine (condT (by rw [dT hn.2.1, dT hn.1]; rfl)).trans ?_)
      | skip
    all_goals refine condB (fun h2 => ?_) (fun h2 => ?_)
    all_goals first
      | (have hc := first2 h2
         refine (condT (by rw [Bool.and_eq_true]; exact ⟨chordF_right hc.1, chordF_right hc.2⟩)).trans ?_)
      | skip
    all_goals refine condB (fun h3 => ?_) (fun h3 => ?_)
    all_goals first
      | refine (condT s2).trans ?_
      | skip
    all_goals refine condB (fun h4 => ?_) (fun h4 => ?_)
    all_goals first
      | (have hr := row_ok h4
         refine (condT (by rw [Bool.and_eq_true]; exact ⟨dT (by omega), hr.2⟩)).trans ?_)
      | skip
    all_goals
      refine (condT (beqT (of2 P.2))).trans ?_
      refine (condT (dT (of1l P.2))).trans ?_
    all_goals first
      | refine (condT (beqT (of1t h1))).trans ?_
      | refine (condT (beqT (of1f h1))).trans ?_
    all_goals refine (condT (beqT (sh2 A.2 B.2))).trans ?_
    all_goals first
      | refine (condT (beqT (sh1t h2))).trans ?_
      | refine (condT (beqT (sh1f h2))).trans ?_
    all_goals refine (condT (beqT s3)).trans ?_
    all_goals first
      | refine (condT (cbeqT (s4 (s3.trans (by simpa using h3))))).trans ?_
      | refine (condT (cbeqT (s5 (fun h => by rw [s3] at h; rw [h] at h3; cases h3)))).trans ?_
    all_goals
      refine (condT (beqT (keys2 r))).trans ?_
      refine (condT (dT (keys1l r))).trans ?_
    all_goals first
      | refine (condT (beqT (keys1t h4))).trans ?_
      | refine (condT (beqT (keys1f h4))).trans ?_
    all_goals rfl

end Go.Ev.H

namespace Go.Ev.H
open Go Go.Ev Go.Proofs
theorem e120 : EnvOk Tryd.prog En120 := sd120 e0 r120
theorem e63 : EnvOk Tryd.prog En63 := sd63 e120 r63
theorem e12 : EnvOk Tryd.prog En12 := sd12 e63 r12
theorem e31 : EnvOk Tryd.prog En31 := sd31 e12 r31
theorem e78 : EnvOk Tryd.prog En78 := sd78 e31 r78
theorem e58 : EnvOk Tryd.prog En58 := sd58 e78 r58
theorem e10 : EnvOk Tryd.prog En10 := sd10 e58 r10
theorem e62 : EnvOk Tryd.prog En62 := sd62 e10 r62
theorem e8 : EnvOk Tryd.prog En8 := sd8 e62 r8
theorem e9 : EnvOk Tryd.prog En9 := sd9 e8 r9
theorem e11 : EnvOk Tryd.prog En11 := sd11 e9 r11
theorem e27 : EnvOk Tryd.prog En27 := sd27 e11 r27
theorem e71 : EnvOk Tryd.prog En71 := sd71 e27 r71
theorem e121 : EnvOk Tryd.prog En121 := sd121 e71 r121
theorem e125 : EnvOk Tryd.prog En125 := sd125 e121 r125
theorem e76 : EnvOk Tryd.prog En76 := sd76 e125 r76
theorem e64 : EnvOk Tryd.prog En64 := sd64 e76 r64
theorem e158 : EnvOk Tryd.prog En158 := sd158 e64 r158
theorem e159 : EnvOk Tryd.prog En159 := sd159 e158 r159
theorem e132 : EnvOk Tryd.prog En132 := sd132 e159 r132
theorem e160 : EnvOk Tryd.prog En160 := sd160 e132 r160
theorem e183 : EnvOk Tryd.prog En183 := sd183 e160 r183
theorem e177 : EnvOk Tryd.prog En177 := sd177 e183 r177
theorem e148 : EnvOk Tryd.prog En148 := sd148 e177 r148
theorem e122 : EnvOk Tryd.prog En122 := sd122 e148 r122
theorem e123 : EnvOk Tryd.prog En123 := sd123 e122 r123
theorem e65 : EnvOk Tryd.prog En65 := sd65 e123 r65
theorem e66 : EnvOk Tryd.prog En66 := sd66 e65 r66
theorem e119 : EnvOk Tryd.prog En119 := sd119 e66 r119
theorem e67 : EnvOk Tryd.prog En67 := sd67 e119 r67
theorem e68 : EnvOk Tryd.prog En68 := sd68 e67 r68
theorem e13 : EnvOk Tryd.prog En13 := sd13 e68 r13
theorem e100 : EnvOk Tryd.prog En100 := sd100 e13 r100
theorem e61 : EnvOk Tryd.prog En61 := sd61 e100 r61
theorem e69 : EnvOk Tryd.prog En69 := sd69 e61 r69
theorem e70 : EnvOk Tryd.prog En70 := sd70 e69 r70
theorem e14 : EnvOk Tryd.prog En14 := sd14 e70 r14
theorem e15 : EnvOk Tryd.prog En15 := sd15 e14 r15
theorem e73 : EnvOk Tryd.prog En73 := sd73 e15 r73
theorem e125a : EnvOk Tryd.prog En125a := sd125a e73 r125a
theorem e76a : EnvOk Tryd.prog En76a := sd76a e125a r76a
theorem e75 : EnvOk Tryd.prog En75 := sd75 e76a r75
theorem e124 : EnvOk Tryd.prog En124 := sd124 e75 r124
theorem e74 : EnvOk Tryd.prog En74 := sd74 e124 r74
theorem e72 : EnvOk Tryd.prog En72 := sd72 e74 r72
theorem e16 : EnvOk Tryd.prog En16 := sd16 e72 r16
theorem e77 : EnvOk Tryd.prog En77 := sd77 e16 r77
theorem e17 : EnvOk Tryd.prog En17 := sd17 e77 r17
theorem e18 : EnvOk Tryd.prog En18 := sd18 e17 r18
theorem e19 : EnvOk Tryd.prog En19 := sd19 e18 r19
theorem e20 : EnvOk Tryd.prog En20 := sd20 e19 r20
theorem e21 : EnvOk Tryd.prog En21 := sd21 e20 r21
theorem e82 : EnvOk Tryd.prog En82 := sd82 e21 r82
theorem e81 : EnvOk Tryd.prog En81 := sd81 e82 r81
theorem e124a : EnvOk Tryd.prog En124a := sd124a e81 r124a
theorem e79 : EnvOk Tryd.prog En79 := sd79 e124a r79
theorem e80 : EnvOk Tryd.prog En80 := sd80 e79 r80
theorem e22 : EnvOk Tryd.prog En22 := sd22 e80 r22
theorem e23 : EnvOk Tryd.prog En23 := sd23 e22 r23
theorem e24 : EnvOk Tryd.prog En24 := sd24 e23 r24
theorem e84 : EnvOk Tryd.prog En84 := sd84 e24 r84
theorem e125b : EnvOk Tryd.prog En125b := sd125b e84 r125b
theorem e76b : EnvOk Tryd.prog En76b := sd76b e125b r76b
theorem e83 : EnvOk Tryd.prog En83 := sd83 e76b r83
theorem e124b : EnvOk Tryd.prog En124b := sd124b e83 r124b
theorem e74a : EnvOk Tryd.prog En74a := sd74a e124b r74a
theorem e25 : EnvOk Tryd.prog En25 := sd25 e74a r25
theorem e26 : EnvOk Tryd.prog En26 := sd26 e25 r26
theorem e110 : EnvOk Tryd.prog En110 := sd110 e26 r110
theorem e111 : EnvOk Tryd.prog En111 := sd111 e110 r111
theorem e112 : EnvOk Tryd.prog En112 := sd112 e111 r112
theorem e56 : EnvOk Tryd.prog En56 := sd56 e112 r56
theorem e28 : EnvOk Tryd.prog En28 := sd28 e56 r28
theorem lawSound : Sound Tryd.prog En28.gl 3 S3 := law e28 r3
end Go.Ev.H

set_option linter.unusedSimpArgs false
set_option linter.unusedVariables false
namespace Go.Ev
open Go

/-! ### from a contract to a row -/
/-- A row of whole numbers in memory. -/
def IsRow (k : IntKind) (w : World) (a : Option Addr) (len cap : Nat) (zs : List Int) : Prop :=
  (a = none ∧ len = 0 ∧ cap = 0 ∧ zs = []) ∨
  ∃ x, a = some x ∧ len ≤ cap ∧ zs.length = cap ∧ (∀ i, i < zs.length → w.cell? (x.add i) = some (.int k (zs.getD i 0)))

/-- What is left as it was. -/
def Kept (W w' : World) : Prop := w'.os = W.os ∧ w'.output = W.output ∧ W.heap.size ≤ w'.heap.size ∧ ∀ b, b < W.heap.size → w'.heap[b]? = W.heap[b]?

theorem Kept.but {W w' : World} (h : Kept W w') (may : MemPlace → Prop) : W.keptBut w' may := by
  refine ⟨h.1, h.2.1, fun i hi => ?_⟩
  rw [h.2.2.2 i hi]
  split <;> simp_all

theorem Kept.same {W w' : World} (h : Kept W w') {p : MemPlace} (hp : p.block < W.heap.size) : W.sameAt w' p := by
  cases p with
  | cell b o => exact World.cell?_of_block (w := W) (h.2.2.2 b hp)
  | map b => exact h.2.2.2 b hp

theorem Kept.trod {H : Type} {enc : TypeId × Value → H} {P : Program} {t : TypeId} (hl : laidOutB P = true) (hr : P.readableRec t = true) (hrow : t < P.types.size) {W W' : World} {v : Value} {d : DataW H} {ps : List MemPlace}
    (h : DataW.Trod enc P W 0 (fun _ => true) true t v d ps) (hb : Kept W W') (hlt : ∀ x ∈ ps, x.block < W.heap.size) :
    DataW.Trod enc P W' 0 (fun b => decide (b < W.heap.size)) true t v d ps :=
  WideElems.Trod_stays hl hr hrow h (fun x hx => hb.same (hlt x hx)) (fun x hx => by simpa using hlt x hx)

theorem row_rel {W : World} {k : IntKind} {a : Option Addr} {len cap : Nat} {zs : List Int} (h : IsRow k W a len cap zs) :
    RelD (fun b => b < W.heap.size) W.heap (.slice (.int k)) (zs.take len) [.slice a len cap] := by
  rcases h with ⟨rfl, rfl, rfl, rfl⟩ | ⟨x, rfl, h1, h2, h3⟩
  · exact ⟨none, 0, rfl, by simp, fun i x hx => by simp at hx⟩
  · have hlen : (zs.take len).length = len := by rw [List.length_take]; omega
    refine ⟨some x, cap, by rw [hlen], by rw [hlen]; omega, fun i y hy => ?_⟩
    have hi : i < (zs.take len).length := (List.getElem?_eq_some_iff.1 hy).1
    rw [hlen] at hi
    have hc := h3 i (by omega)
    have hsp : x.spot = none := by
      have h4 := World.cell?_spot (h3 0 (by omega))
      rwa [show x.add 0 = x from if_pos rfl] at h4
    have hadd : x.add i = ⟨x.block, x.off + i, none⟩ := by
      obtain ⟨b, o, sp⟩ := x
      simp only at hsp
      subst hsp
      unfold Addr.add
      split
      · rename_i h0; simp [h0]
      · rfl
    rw [hadd, cell_at] at hc
    have hy2 : zs.getD i 0 = y := by
      rw [List.getElem?_take, if_pos hi] at hy
      rw [List.getD_eq_getElem?_getD, hy]; rfl
    refine ⟨x, rfl, hsp, ?_, [.int k y], rfl, fun j u hu => ?_⟩
    · unfold cellAt at hc
      split at hc
      · rename_i hb
        exact (Array.getElem?_eq_some_iff.1 hb).1
      · cases hc
    · have hj : j = 0 := by
        have := (List.getElem?_eq_some_iff.1 hu).1
        simpa using this
      subst hj
      simp at hu; subst hu
      rw [show (Tc.int k).size = 1 from rfl, Nat.mul_one, Nat.add_zero, hc, hy2]

/-- A law over numbers: it answers true, and leaves memory alone. -/
theorem law_calls {P : Program} {G : (Nat → Prop) → Array Obj → Prop} {f : FuncId} {s : Spec} (hs : Sound P G f s) {L : List Int} (hok : s.ok ⟨[.dat (.slice (.int .i64)) L], []⟩ = true) (hfn : s.fn ⟨[.dat (.slice (.int .i64)) L], []⟩ = some ⟨[.dat .bool true], []⟩)
    {W : World} {a : Option Addr} {len cap : Nat} (hG : G (fun b => b < W.heap.size) W.heap) (hr : RelD (fun b => b < W.heap.size) W.heap (.slice (.int .i64)) L [.slice a len cap]) :
    Calls P f #[.slice a len cap] W fun e w' => e = .returned (.bool true) ∧ Kept W w' := by
  have hcore : Core (Fr.reg ⟨[.dat (.slice (.int .i64)) L], []⟩) (fun _ => ⟨0, 0, 0, true, none⟩) (fun b => b < W.heap.size) W.heap :=
    ⟨fun k => trivial, fun k k' h => h.elim, fun k h => h.elim, fun b h => h⟩
  have hv : RelVs (view (Fr.reg ⟨[.dat (.slice (.int .i64)) L], []⟩) (fun _ => ⟨0, 0, 0, true, none⟩) (fun b => b < W.heap.size) W.heap) [.dat (.slice (.int .i64)) L] [.slice a len cap] :=
    ⟨_, _, rfl, hr, rfl⟩
  refine (hs _ _ hok hfn [.slice a len cap] W _ _ hcore hG hv).mono ?_
  rintro e w' ⟨u, rfl, hm, loc', S', hc, hle, hu⟩
  have hu' : [u] = [Value.bool true] := hu
  refine ⟨by simpa using hu', hm.1, hm.2, hc.keep.size, fun b hb => hc.keep.same b hb ?_⟩
  rintro ⟨k, hk, _⟩
  exact hk.elim
end Go.Ev
