import Derived.Test.YtpajbcpdhpnjlaaDoorA3
import Derived.Test.YtpajbcpdhpnjlaaDoorA4
import Derived.Below
import Derived.Shelf.Small.Strs
import Derived.Shelf.Strings.SlTrimAscii
import Derived.Test.YtpajbcpdhpnjlaaDoorProg
set_option linter.unusedVariables false
set_option linter.unusedSimpArgs false
set_option maxRecDepth 100000
namespace Go.Ev.M
open Go Go.Ev Go.Proofs
theorem mo : Tryd.prog.follows .mixedOrders = true := by kernel_rfl
theorem e0 : EnvOk Tryd.prog En0 := env_nil (by kernel_rfl)
def R83 : Prop := ∀ (a0 : Int) (a1 : Int), (true) = true → I83.run ⟨[.dat tI a0, .dat tI a1], []⟩ = some ⟨[.dat tI (below a0 a1)], []⟩
theorem sd83 (hE : EnvOk Tryd.prog En0) (h : R83) : EnvOk Tryd.prog En83 := env_add hE (gen_sound I83 hE mo Tryd.func83 rfl rfl (fun x hx => h x.1 x.2.1 hx))
def R41 : Prop := ∀ (a0 : Int) (L : (List Int)) (at_ : Int), (atOk 1 at_) = true → I41.run ⟨[.ptr 0 0, .dat tI a0], [(0, .box [.dat (.slice tI) L, .dat tI at_])]⟩ = some ⟨[.dat tI (next L at_ a0)], [(0, .box [.dat (.slice tI) (L), .dat tI (nextAt at_)])]⟩
theorem sd41 (hE : EnvOk Tryd.prog En83) (h : R41) : EnvOk Tryd.prog En41 := env_add hE (gen_sound I41 hE mo Tryd.func41 rfl rfl (fun x hx => h x.1 x.2.1 x.2.2.1 hx))
def R29 : Prop := ∀ (a0 : Int) (L : (List Int)) (at_ : Int), (atOk 1 at_) = true → I29.run ⟨[.ptr 0 0, .dat tI a0], [(0, .box [.dat (.slice tI) L, .dat tI at_])]⟩ = some ⟨[.dat .bool (next L at_ a0 == 0)], [(0, .box [.dat (.slice tI) (L), .dat tI (nextAt at_)])]⟩
theorem sd29 (hE : EnvOk Tryd.prog En41) (h : R29) : EnvOk Tryd.prog En29 := env_add hE (gen_sound I29 hE mo Tryd.func29 rfl rfl (fun x hx => h x.1 x.2.1 x.2.2.1 hx))
def R30 : Prop := ∀ (a0 : (List Bytes)) (L : (List Int)) (at_ : Int), (atOk 1 at_ && decide (0 < List.length a0) && decide (List.length a0 ≤ 1000)) = true → I30.run ⟨[.ptr 0 0, .dat (.slice .str) a0], [(0, .box [.dat (.slice tI) L, .dat tI at_])]⟩ = some ⟨[.dat .str (some_ L at_ a0)], [(0, .box [.dat (.slice tI) (L), .dat tI (nextAt at_)])]⟩
theorem sd30 (hE : EnvOk Tryd.prog En29) (h : R30) : EnvOk Tryd.prog En30 := env_add hE (gen_sound I30 hE mo Tryd.func30 rfl rfl (fun x hx => h x.1 x.2.1 x.2.2.1 hx))
def R35 : Prop := ∀ (a0 : (List Int)) (L : (List Int)) (at_ : Int), (atOk 1 at_ && decide (0 < List.length a0) && decide (List.length a0 ≤ 1000)) = true → I35.run ⟨[.ptr 0 0, .dat (.slice tI) a0], [(0, .box [.dat (.slice tI) L, .dat tI at_])]⟩ = some ⟨[.dat tI (pick L at_ a0)], [(0, .box [.dat (.slice tI) (L), .dat tI (nextAt at_)])]⟩
theorem sd35 (hE : EnvOk Tryd.prog En30) (h : R35) : EnvOk Tryd.prog En35 := env_add hE (gen_sound I35 hE mo Tryd.func35 rfl rfl (fun x hx => h x.1 x.2.1 x.2.2.1 hx))
def R40 : Prop := ∀ (a0 : Int) (L : (List Int)) (at_ : Int), (atOk 1000 at_ && decide (0 ≤ a0) && decide (a0 ≤ 5)) = true → I40.run ⟨[.ptr 0 0, .dat tI a0], [(0, .box [.dat (.slice tI) L, .dat tI at_])]⟩ = some ⟨[.agg [.slc 2, .dat tI ((rightP L at_ a0).2.2.1), .dat tI ((rightP L at_ a0).2.2.2.1), .dat tI ((rightP L at_ a0).2.2.2.2.1), .dat tI ((rightP L at_ a0).2.2.2.2.2)]], [(0, .box [.dat (.slice tI) (L), .dat tI ((rightP L at_ a0).1)]), (2, .arr tItem ((rightP L at_ a0).2.1))]⟩
theorem sd40 (hE : EnvOk Tryd.prog En35) (h : R40) : EnvOk Tryd.prog En40 := env_add hE (gen_sound I40 hE mo Tryd.func40 rfl rfl (fun x hx => h x.1 x.2.1 x.2.2.1 hx))
def R31 : Prop := ∀ (a0 : Int) (a1 : Int) (L : (List Int)) (at_ : Int), (atOk 1 at_) = true → I31.run ⟨[.ptr 0 0, .dat tI a0, .dat tI a1], [(0, .box [.dat (.slice tI) L, .dat tI at_])]⟩ = some ⟨[.dat tI (rangeS L at_ a0 a1)], [(0, .box [.dat (.slice tI) (L), .dat tI (rangeAt at_ a0 a1)])]⟩
theorem sd31 (hE : EnvOk Tryd.prog En40) (h : R31) : EnvOk Tryd.prog En31 := env_add hE (gen_sound I31 hE mo Tryd.func31 rfl rfl (fun x hx => h x.1 x.2.1 x.2.2.1 x.2.2.2.1 hx))
def R42 : Prop := ∀ (a0 : Int) (a1 : Int) (L : (List Int)) (at_ : Int), (atOk 8 at_) = true → I42.run ⟨[.ptr 0 0, .dat tI a0, .dat tI a1], [(0, .box [.dat (.slice tI) L, .dat tI at_])]⟩ = some ⟨[.dat tI ((oddS L at_ a0 a1).2)], [(0, .box [.dat (.slice tI) (L), .dat tI ((oddS L at_ a0 a1).1)])]⟩
theorem sd42 (hE : EnvOk Tryd.prog En31) (h : R42) : EnvOk Tryd.prog En42 := env_add hE (gen_sound I42 hE mo Tryd.func42 rfl rfl (fun x hx => h x.1 x.2.1 x.2.2.1 x.2.2.2.1 hx))
def R43 : Prop := ∀ (a0 : (List Bytes)), (decide (List.length a0 ≤ 1000)) = true → I43.run ⟨[.dat (.slice .str) a0], []⟩ = some ⟨[.slc 0], [(0, .arr .str (a0))]⟩
theorem sd43 (hE : EnvOk Tryd.prog En42) (h : R43) : EnvOk Tryd.prog En43 := env_add hE (gen_sound I43 hE mo Tryd.func43 rfl rfl (fun x hx => h x.1 hx))
def R6 : Prop := ∀ (a0 : Int) (L : (List Int)) (at_ : Int), (atOk 2000 at_ && a0 == 5) = true → I6.run ⟨[.ptr 0 0, .dat tI a0], [(0, .box [.dat (.slice tI) L, .dat tI at_])]⟩ = some ⟨[.dat tPrgm ((aProg L at_ a0).2)], [(0, .box [.dat (.slice tI) (L), .dat tI ((aProg L at_ a0).1)])]⟩
theorem sd6 (hE : EnvOk Tryd.prog En43) (h : R6) : EnvOk Tryd.prog En6 := env_add hE (gen_sound I6 hE mo Tryd.func6 rfl rfl (fun x hx => h x.1 x.2.1 x.2.2.1 hx))
def R46 : Prop := ∀ (a0 : Int) (a1 : Int) (a2 : Int), (true) = true → I46.run ⟨[.dat tI a0, .dat tI a1, .dat tI a2], []⟩ = some ⟨[.dat .bool (inR a0 a1 a2)], []⟩
theorem sd46 (hE : EnvOk Tryd.prog En6) (h : R46) : EnvOk Tryd.prog En46 := env_add hE (gen_sound I46 hE mo Tryd.func46 rfl rfl (fun x hx => h x.1 x.2.1 x.2.2.1 hx))
def R86 : Prop := Sound Tryd.prog En0.gl 86 S86 ∧ Enters Tryd.prog 86
theorem sd86 (hE : EnvOk Tryd.prog En46) (h : R86) : EnvOk Tryd.prog En86 := env_add hE (h)
def R89 : Prop := ∀ (a0 : Bytes) (a1 : Bytes), (decide (List.length a0 ≤ 1000000)) = true → I89.run ⟨[.dat .str a0, .dat .str a1], []⟩ = some ⟨[.dat .bool (onlyB a0 a1)], []⟩
theorem sd89 (hE : EnvOk Tryd.prog En86) (h : R89) : EnvOk Tryd.prog En89 := env_add hE (gen_sound I89 hE mo Tryd.func89 rfl rfl (fun x hx => h x.1 x.2.1 hx))
def R54 : Prop := ∀ (a0 : Bytes), (true) = true → I54.run ⟨[.dat .str a0], []⟩ = some ⟨[.dat .bool (keyR a0)], []⟩
theorem sd54 (hE : EnvOk Tryd.prog En89) (h : R54) : EnvOk Tryd.prog En54 := env_add hE (gen_sound I54 hE mo Tryd.func54 rfl rfl (fun x hx => h x.1 hx))
def R90 : Prop := ∀ (a0 : Item) (k : Bytes), (true) = true → I90.run ⟨[.dat tItem a0, .ptr 0 0], [(0, .box [.dat .str k])]⟩ = some ⟨[.dat .bool (t90_0 a0 k)], [(0, .box [.dat .str k])]⟩
theorem sd90 (hE : EnvOk Tryd.prog En54) (h : R90) : EnvOk Tryd.prog En90 := env_add hE (gen_sound I90 hE mo Tryd.func90 rfl rfl (fun x hx => h x.1 x.2.1 hx))
theorem r90 : R90 := by
  intro a0 k _
  exact f90_run a0 k
def R88 : Prop := ∀ (a0 : (List Item)) (k : Bytes), (decide (List.length a0 ≤ 1000)) = true → I88.run ⟨[.dat (.slice tItem) a0, .clos 90 [.ptr 0 0]], [(0, .box [.dat .str k])]⟩ = some ⟨[.dat tI (idxBy (fun o => t90_0 o k) a0 0)], [(0, .box [.dat .str (k)])]⟩
theorem sd88 (hE : EnvOk Tryd.prog En90) (h : R88) : EnvOk Tryd.prog En88 := env_add hE (gen_sound I88 hE mo Tryd.func88 rfl rfl (fun x hx => h x.1 x.2.1 hx))
def R55 : Prop := ∀ (a0 : (List Item)) (a1 : Bytes), (t55_ok a0 a1) = true → I55.run ⟨[.dat (.slice tItem) a0, .dat .str a1], []⟩ = some ⟨[.dat tI (t55_0 a0 a1)], []⟩
theorem sd55 (hE : EnvOk Tryd.prog En88) (h : R55) : EnvOk Tryd.prog En55 := env_add hE (gen_sound I55 hE mo Tryd.func55 rfl rfl (fun x hx => h x.1 x.2.1 hx))
theorem rt55 (a0 : (List Item)) (a1 : Bytes) : I55.run ⟨[.dat (.slice tItem) a0, .dat .str a1], []⟩ = (t55 a0 a1).map (fun r => ⟨[.dat tI r], []⟩) := by
  rw [f55_run a0 a1]
  unfold t55
  simp only [omap_cond, Option.map_some, Option.map_none]
theorem r55 : R55 := by
  intro a0 a1 h
  obtain ⟨r, hr⟩ := Option.isSome_iff_exists.1 h
  rw [rt55, hr]
  unfold t55_0
  rw [hr]; rfl
def R56 : Prop := ∀ (a0 : (List Bytes)), (decide (List.length a0 ≤ 1000)) = true → I56.run ⟨[.dat (.slice .str) a0], []⟩ = some ⟨[.dat tI (risingGo keyR none a0)], []⟩
theorem sd56 (hE : EnvOk Tryd.prog En55) (h : R56) : EnvOk Tryd.prog En56 := env_add hE (gen_sound I56 hE mo Tryd.func56 rfl rfl (fun x hx => h x.1 hx))
def R17 : Prop := ∀ (a0 : (List Item)), (true) = true → I17.run ⟨[.dat (.slice tItem) a0], []⟩ = some ⟨[.dat tI (checkItems keyR a0)], []⟩
theorem sd17 (hE : EnvOk Tryd.prog En56) (h : R17) : EnvOk Tryd.prog En17 := env_add hE (gen_sound I17 hE mo Tryd.func17 rfl rfl (fun x hx => h x.1 hx))
def R11 : Prop := ∀ (a0 : Prgm), (true) = true → I11.run ⟨[.dat tPrgm a0], []⟩ = some ⟨[.dat tI (checkProg keyR a0)], []⟩
theorem sd11 (hE : EnvOk Tryd.prog En17) (h : R11) : EnvOk Tryd.prog En11 := env_add hE (gen_sound I11 hE mo Tryd.func11 rfl rfl (fun x hx => h x.1 hx))
def R51 : Prop := ∀ (a0 : Item) (k : Bytes) (pl : Bytes) (lg : Int) (ps : (List Bytes)), (true) = true → I51.run ⟨[.dat tItem a0, .ptr 0 0], [(0, .box [.dat .str k, .dat .str pl, .dat tI lg, .dat (.slice .str) ps])]⟩ = some ⟨[.dat .bool (t51_0 a0 k pl lg ps)], [(0, .box [.dat .str k, .dat .str pl, .dat tI lg, .dat (.slice .str) ps])]⟩
theorem sd51 (hE : EnvOk Tryd.prog En11) (h : R51) : EnvOk Tryd.prog En51 := env_add hE (gen_sound I51 hE mo Tryd.func51 rfl rfl (fun x hx => h x.1 x.2.1 x.2.2.1 x.2.2.2.1 x.2.2.2.2.1 hx))
theorem r51 : R51 := by
  intro a0 k pl lg ps _
  exact f51_run a0 k pl lg ps
def R88a : Prop := ∀ (a0 : (List Item)) (k : Bytes) (pl : Bytes) (lg : Int) (ps : (List Bytes)), (decide (List.length a0 ≤ 1000)) = true → I88a.run ⟨[.dat (.slice tItem) a0, .clos 51 [.ptr 0 0]], [(0, .box [.dat .str k, .dat .str pl, .dat tI lg, .dat (.slice .str) ps])]⟩ = some ⟨[.dat tI (idxBy (fun o => t51_0 o k pl lg ps) a0 0)], [(0, .box [.dat .str (k), .dat .str (pl), .dat tI (lg), .dat (.slice .str) (ps)])]⟩
theorem sd88a (hE : EnvOk Tryd.prog En51) (h : R88a) : EnvOk Tryd.prog En88a := env_or hE rfl (gen_sound I88a hE mo Tryd.func88 rfl rfl (fun x hx => h x.1 x.2.1 x.2.2.1 x.2.2.2.1 x.2.2.2.2.1 hx))
def R50 : Prop := ∀ (a0 : (List Item)) (k : Bytes) (pl : Bytes) (lg : Int) (ps : (List Bytes)), (t50_ok a0 k pl lg ps) = true → I50.run ⟨[.dat (.slice tItem) a0, .clos 51 [.ptr 0 0]], [(0, .box [.dat .str k, .dat .str pl, .dat tI lg, .dat (.slice .str) ps])]⟩ = some ⟨[.dat .bool (t50_0 a0 k pl lg ps)], [(0, .box [.dat .str k, .dat .str pl, .dat tI lg, .dat (.slice .str) ps])]⟩
theorem sd50 (hE : EnvOk Tryd.prog En88a) (h : R50) : EnvOk Tryd.prog En50 := env_add hE (gen_sound I50 hE mo Tryd.func50 rfl rfl (fun x hx => h x.1 x.2.1 x.2.2.1 x.2.2.2.1 x.2.2.2.2.1 hx))
theorem rt50 (a0 : (List Item)) (k : Bytes) (pl : Bytes) (lg : Int) (ps : (List Bytes)) : I50.run ⟨[.dat (.slice tItem) a0, .clos 51 [.ptr 0 0]], [(0, .box [.dat .str k, .dat .str pl, .dat tI lg, .dat (.slice .str) ps])]⟩ = (t50 a0 k pl lg ps).map (fun r => ⟨[.dat .bool r], [(0, .box [.dat .str k, .dat .str pl, .dat tI lg, .dat (.slice .str) ps])]⟩) := by
  rw [f50_run a0 k pl lg ps]
  unfold t50
  simp only [omap_cond, Option.map_some, Option.map_none]
theorem r50 : R50 := by
  intro a0 k pl lg ps h
  obtain ⟨r, hr⟩ := Option.isSome_iff_exists.1 h
  rw [rt50, hr]
  unfold t50_0
  rw [hr]; rfl
def R87 : Prop := Sound Tryd.prog En0.gl 87 S87 ∧ Enters Tryd.prog 87
theorem sd87 (hE : EnvOk Tryd.prog En50) (h : R87) : EnvOk Tryd.prog En87 := env_add hE (h)
def R49 : Prop := ∀ (a0 : Bytes), (true) = true → I49.run ⟨[.dat .str a0], []⟩ = some ⟨[.dat .bool (isKey a0)], []⟩
theorem sd49 (hE : EnvOk Tryd.prog En87) (h : R49) : EnvOk Tryd.prog En49 := env_add hE (gen_sound I49 hE mo Tryd.func49 rfl rfl (fun x hx => h x.1 hx))
def R52 : Prop := ∀ (a0 : Int) (a1 : Int) (a2 : Int), (true) = true → I52.run ⟨[.dat tI a0, .dat tI a1, .dat tI a2], []⟩ = some ⟨[.dat .bool (outside a0 a1 a2)], []⟩
theorem sd52 (hE : EnvOk Tryd.prog En49) (h : R52) : EnvOk Tryd.prog En52 := env_add hE (gen_sound I52 hE mo Tryd.func52 rfl rfl (fun x hx => h x.1 x.2.1 x.2.2.1 hx))
def R53 : Prop := ∀ (a0 : (List Bytes)), (true) = true → I53.run ⟨[.dat (.slice .str) a0], []⟩ = some ⟨[.dat tI (partsF isKey a0)], []⟩
theorem sd53 (hE : EnvOk Tryd.prog En52) (h : R53) : EnvOk Tryd.prog En53 := env_add hE (gen_sound I53 hE mo Tryd.func53 rfl rfl (fun x hx => h x.1 hx))
def R16 : Prop := ∀ (a0 : (List Item)), (true) = true → I16.run ⟨[.dat (.slice tItem) a0], []⟩ = some ⟨[.dat tI (checkItems isKey a0)], []⟩
theorem sd16 (hE : EnvOk Tryd.prog En53) (h : R16) : EnvOk Tryd.prog En16 := env_add hE (gen_sound I16 hE mo Tryd.func16 rfl rfl (fun x hx => h x.1 hx))
def R18 : Prop := ∀ (a0 : Prgm), (true) = true → I18.run ⟨[.dat tPrgm a0], []⟩ = some ⟨[.dat tI (checkProg isKey a0)], []⟩
theorem sd18 (hE : EnvOk Tryd.prog En16) (h : R18) : EnvOk Tryd.prog En18 := env_add hE (gen_sound I18 hE mo Tryd.func18 rfl rfl (fun x hx => h x.1 hx))
def R74 : Prop := ∀ (a0 : Prgm) (a1 : Item) (a2 : Item), (true) = true → I74.run ⟨[.dat tPrgm a0, .dat tItem a1, .dat tItem a2], []⟩ = some ⟨[.dat tI (t74_0 a0 a1 a2)], []⟩
theorem sd74 (hE : EnvOk Tryd.prog En18) (h : R74) : EnvOk Tryd.prog En74 := env_add hE (gen_sound I74 hE mo Tryd.func74 rfl rfl (fun x hx => h x.1 x.2.1 x.2.2.1 hx))
theorem r74 : R74 := by
  intro a0 a1 a2 _
  rw [f74_run a0 a1 a2]
  unfold t74_0 t74
  cases h2 : (!(a1.2.1 == a2.2.1)) with
  | true =>
    simp only [cond_true]
    all_goals rfl
  | false =>
    simp only [cond_false]
    all_goals rfl
def R85 : Prop := ∀ (a0 : Prgm) (a1 : Int), (decide (0 ≤ a1) && decide (a1 + 1 < (List.length a0.1 : Int)) && decide (List.length a0.1 ≤ 1000)) = true → I85.run ⟨[.dat tPrgm a0, .dat tI a1], []⟩ = some ⟨[.dat tI (behindF a0 a1)], []⟩
theorem sd85 (hE : EnvOk Tryd.prog En74) (h : R85) : EnvOk Tryd.prog En85 := env_add hE (gen_sound I85 hE mo Tryd.func85 rfl rfl (fun x hx => h x.1 x.2.1 hx))
def R45 : Prop := ∀ (a0 : Prgm), (decide (List.length a0.1 ≤ 1000)) = true → I45.run ⟨[.dat tPrgm a0], []⟩ = some ⟨[.slc 0, .dat tI ((begGo a0 0 0 a0.1).2)], [(0, .arr tI ((begGo a0 0 0 a0.1).1))]⟩
theorem sd45 (hE : EnvOk Tryd.prog En85) (h : R45) : EnvOk Tryd.prog En45 := env_add hE (gen_sound I45 hE mo Tryd.func45 rfl rfl (fun x hx => h x.1 hx))
def R9 : Prop := ∀ (a0 : Prgm), (true) = true → I9.run ⟨[.dat tPrgm a0], []⟩ = some ⟨[.dat tI ((longP a0).1), .dat tI ((longP a0).2)], []⟩
theorem sd9 (hE : EnvOk Tryd.prog En45) (h : R9) : EnvOk Tryd.prog En9 := env_add hE (gen_sound I9 hE mo Tryd.func9 rfl rfl (fun x hx => h x.1 hx))
def R20 : Prop := (true) = true → I20.run ⟨[], []⟩ = some ⟨[.dat .bool true], []⟩
theorem sd20 (hE : EnvOk Tryd.prog En9) (h : R20) : EnvOk Tryd.prog En20 := env_add hE (gen_sound I20 hE mo Tryd.func20 rfl rfl (fun x hx => h  hx))
def R97 : Prop := ∀ (a0 : (List Bytes)) (a1 : Bytes), (decide (List.length a0 ≤ 1000)) = true → I97.run ⟨[.dat (.slice .str) a0, .dat .str a1], []⟩ = some ⟨[.dat tI (idxS a1 a0 0)], []⟩
theorem sd97 (hE : EnvOk Tryd.prog En20) (h : R97) : EnvOk Tryd.prog En97 := env_add hE (gen_sound I97 hE mo Tryd.func97 rfl rfl (fun x hx => h x.1 x.2.1 hx))
def R70 : Prop := ∀ (a0 : (List Bytes)) (a1 : Bytes), (decide (List.length a0 ≤ 1000)) = true → I70.run ⟨[.dat (.slice .str) a0, .dat .str a1], []⟩ = some ⟨[.dat .bool (hasS a0 a1)], []⟩
theorem sd70 (hE : EnvOk Tryd.prog En97) (h : R70) : EnvOk Tryd.prog En70 := env_add hE (gen_sound I70 hE mo Tryd.func70 rfl rfl (fun x hx => h x.1 x.2.1 hx))
def R108 : Prop := ∀ (a0 : Bytes) (bk : Bytes) (bp : Bytes) (bl : Int) (bps : (List Bytes)), (t108_ok a0 bk bp bl bps) = true → I108.run ⟨[.dat .str a0, .ptr 0 0], [(0, .box [.dat .str bk, .dat .str bp, .dat tI bl, .dat (.slice .str) bps])]⟩ = some ⟨[.dat .bool (t108_0 a0 bk bp bl bps)], [(0, .box [.dat .str bk, .dat .str bp, .dat tI bl, .dat (.slice .str) bps])]⟩
theorem sd108 (hE : EnvOk Tryd.prog En70) (h : R108) : EnvOk Tryd.prog En108 := env_add hE (gen_sound I108 hE mo Tryd.func108 rfl rfl (fun x hx => h x.1 x.2.1 x.2.2.1 x.2.2.2.1 x.2.2.2.2.1 hx))
theorem rt108 (a0 : Bytes) (bk : Bytes) (bp : Bytes) (bl : Int) (bps : (List Bytes)) : I108.run ⟨[.dat .str a0, .ptr 0 0], [(0, .box [.dat .str bk, .dat .str bp, .dat tI bl, .dat (.slice .str) bps])]⟩ = (t108 a0 bk bp bl bps).map (fun r => ⟨[.dat .bool r], [(0, .box [.dat .str bk, .dat .str bp, .dat tI bl, .dat (.slice .str) bps])]⟩) := by
  rw [f108_run a0 bk bp bl bps]
  unfold t108
  simp only [omap_cond, Option.map_some, Option.map_none]
theorem r108 : R108 := by
  intro a0 bk bp bl bps h
  obtain ⟨r, hr⟩ := Option.isSome_iff_exists.1 h
  rw [rt108, hr]
  unfold t108_0
  rw [hr]; rfl
def R110 : Prop := ∀ (a0 : (List Bytes)) (bk : Bytes) (bp : Bytes) (bl : Int) (bps : (List Bytes)), (decide (List.length a0 ≤ 1000) && decide (List.length bps ≤ 1000)) = true → I110.run ⟨[.dat (.slice .str) a0, .clos 108 [.ptr 0 0]], [(0, .box [.dat .str bk, .dat .str bp, .dat tI bl, .dat (.slice .str) bps])]⟩ = some ⟨[.dat tI (idxBy (fun o => t108_0 o bk bp bl bps) a0 0)], [(0, .box [.dat .str (bk), .dat .str (bp), .dat tI (bl), .dat (.slice .str) (bps)])]⟩
theorem sd110 (hE : EnvOk Tryd.prog En108) (h : R110) : EnvOk Tryd.prog En110 := env_add hE (gen_sound I110 hE mo Tryd.func110 rfl rfl (fun x hx => h x.1 x.2.1 x.2.2.1 x.2.2.2.1 x.2.2.2.2.1 hx))
def R93 : Prop := ∀ (a0 : (List Bytes)) (bk : Bytes) (bp : Bytes) (bl : Int) (bps : (List Bytes)), (t93_ok a0 bk bp bl bps) = true → I93.run ⟨[.dat (.slice .str) a0, .clos 108 [.ptr 0 0]], [(0, .box [.dat .str bk, .dat .str bp, .dat tI bl, .dat (.slice .str) bps])]⟩ = some ⟨[.dat .bool (t93_0 a0 bk bp bl bps)], [(0, .box [.dat .str bk, .dat .str bp, .dat tI bl, .dat (.slice .str) bps])]⟩
theorem sd93 (hE : EnvOk Tryd.prog En110) (h : R93) : EnvOk Tryd.prog En93 := env_add hE (gen_sound I93 hE mo Tryd.func93 rfl rfl (fun x hx => h x.1 x.2.1 x.2.2.1 x.2.2.2.1 x.2.2.2.2.1 hx))
theorem rt93 (a0 : (List Bytes)) (bk : Bytes) (bp : Bytes) (bl : Int) (bps : (List Bytes)) : I93.run ⟨[.dat (.slice .str) a0, .clos 108 [.ptr 0 0]], [(0, .box [.dat .str bk, .dat .str bp, .dat tI bl, .dat (.slice .str) bps])]⟩ = (t93 a0 bk bp bl bps).map (fun r => ⟨[.dat .bool r], [(0, .box [.dat .str bk, .dat .str bp, .dat tI bl, .dat (.slice .str) bps])]⟩) := by
  rw [f93_run a0 bk bp bl bps]
  unfold t93
  simp only [omap_cond, Option.map_some, Option.map_none]
theorem r93 : R93 := by
  intro a0 bk bp bl bps h
  obtain ⟨r, hr⟩ := Option.isSome_iff_exists.1 h
  rw [rt93, hr]
  unfold t93_0
  rw [hr]; rfl
def R91 : Prop := ∀ (a0 : Item) (a1 : Item), (decide (List.length a0.2.2.2 ≤ 1000) && decide (List.length a1.2.2.2 ≤ 1000)) = true → I91.run ⟨[.dat tItem a0, .dat tItem a1], []⟩ = some ⟨[.dat .bool (comF a0 a1)], []⟩
theorem sd91 (hE : EnvOk Tryd.prog En93) (h : R91) : EnvOk Tryd.prog En91 := env_add hE (gen_sound I91 hE mo Tryd.func91 rfl rfl (fun x hx => h x.1 x.2.1 hx))
def R60 : Prop := ∀ (a0 : Prgm), (decide (List.length a0.1 ≤ 1000) && partsOk a0.1) = true → I60.run ⟨[.dat tPrgm a0], []⟩ = some ⟨[.agg [.dat tI (rankF a0).1, .dat tI (rankF a0).2.1, .slc 0]], [(0, .arr .str ((rankF a0).2.2))]⟩
theorem sd60 (hE : EnvOk Tryd.prog En91) (h : R60) : EnvOk Tryd.prog En60 := env_add hE (gen_sound I60 hE mo Tryd.func60 rfl rfl (fun x hx => h x.1 hx))
def R111 : Prop := ∀ (a0 : Bytes), (true) = true → I111.run ⟨[.dat .str a0], []⟩ = some ⟨[.dat .bool (t111_0 a0)], []⟩
theorem sd111 (hE : EnvOk Tryd.prog En60) (h : R111) : EnvOk Tryd.prog En111 := env_add hE (gen_sound I111 hE mo Tryd.func111 rfl rfl (fun x hx => h x.1 hx))
theorem r111 : R111 := by
  intro a0 _
  exact f111_run a0
def R95 : Prop := ∀ (a0 : Bytes) (a1 : Bytes), (true) = true → I95.run ⟨[.dat .str a0, .dat .str a1], []⟩ = some ⟨[.dat tI (cmpB a0 a1)], []⟩
theorem sd95 (hE : EnvOk Tryd.prog En111) (h : R95) : EnvOk Tryd.prog En95 := env_add hE (gen_sound I95 hE mo Tryd.func95 rfl rfl (fun x hx => h x.1 x.2.1 hx))
def R66 : Prop := ∀ (a0 : (List Bytes)) (a1 : (List Bytes)), (decide (List.length a0 ≤ 1000)) = true → I66.run ⟨[.dat (.slice .str) a0, .dat (.slice .str) a1], []⟩ = some ⟨[.dat tI (cmpS a0 a1)], []⟩
theorem sd66 (hE : EnvOk Tryd.prog En95) (h : R66) : EnvOk Tryd.prog En66 := env_add hE (gen_sound I66 hE mo Tryd.func66 rfl rfl (fun x hx => h x.1 x.2.1 hx))
def R61 : Prop := ∀ (a0 : Rank) (a1 : Rank), (decide (List.length a0.2.2 ≤ 1000)) = true → I61.run ⟨[.dat tRank a0, .dat tRank a1], []⟩ = some ⟨[.dat .bool (lessR a0 a1)], []⟩
theorem sd61 (hE : EnvOk Tryd.prog En66) (h : R61) : EnvOk Tryd.prog En61 := env_add hE (gen_sound I61 hE mo Tryd.func61 rfl rfl (fun x hx => h x.1 x.2.1 hx))
def R59 : Prop := ∀ (c1 : Int) (c2 : Int) (c3 : Int) (c4 : Int) (sm : Bool) (bl : Int) (bp : Int) (bk : (List Bytes)) (xs : (List Item)), (decide (List.length xs ≤ 1000) && partsOk xs) = true → I59.run ⟨[.ptr 0 0, .ptr 1 0, .ptr 2 0], [(0, .box [.slc 3, .dat tI c1, .dat tI c2, .dat tI c3, .dat tI c4]), (1, .box [.dat .bool sm]), (2, .box [.dat tI bl, .dat tI bp, .dat (.slice .str) bk]), (3, .arr tItem xs)]⟩ = some ⟨[], [(0, .box [.slc 3, .dat tI (c1), .dat tI (c2), .dat tI (c3), .dat tI (c4)]), (1, .box [.dat .bool ((updF (rankF (xs, (c1, (c2, (c3, c4))))) (sm, (bl, (bp, bk)))).1)]), (2, .box [.dat tI ((updF (rankF (xs, (c1, (c2, (c3, c4))))) (sm, (bl, (bp, bk)))).2.1), .dat tI ((updF (rankF (xs, (c1, (c2, (c3, c4))))) (sm, (bl, (bp, bk)))).2.2.1), .dat (.slice .str) ((updF (rankF (xs, (c1, (c2, (c3, c4))))) (sm, (bl, (bp, bk)))).2.2.2)]), (3, .arr tItem (xs))]⟩
theorem sd59 (hE : EnvOk Tryd.prog En61) (h : R59) : EnvOk Tryd.prog En59 := env_add hE (gen_sound I59 hE mo Tryd.func59 rfl rfl (fun x hx => h x.1 x.2.1 x.2.2.1 x.2.2.2.1 x.2.2.2.2.1 x.2.2.2.2.2.1 x.2.2.2.2.2.2.1 x.2.2.2.2.2.2.2.1 x.2.2.2.2.2.2.2.2.1 hx))
def R58 : Prop := ∀ (fr : Int) (xs : (List Item)) (c1 : Int) (c2 : Int) (c3 : Int) (c4 : Int) (sm : Bool) (bl : Int) (bp : Int) (bk : (List Bytes)), (decide (0 ≤ fr) && decide (fr ≤ (List.length xs : Int)) && decide ((List.length xs : Int) - fr ≤ 0) && partsOk xs && decide (List.length xs ≤ 5)) = true → I58.run ⟨[.slc 0, .dat tI fr, .clos 59 [.ptr 1 0, .ptr 2 0, .ptr 3 0]], [(0, .arr tItem xs), (1, .box [.slc 0, .dat tI c1, .dat tI c2, .dat tI c3, .dat tI c4]), (2, .box [.dat .bool sm]), (3, .box [.dat tI bl, .dat tI bp, .dat (.slice .str) bk])]⟩ = some ⟨[], [(0, .arr tItem (xs)), (1, .box [.slc 0, .dat tI (c1), .dat tI (c2), .dat tI (c3), .dat tI (c4)]), (2, .box [.dat .bool ((ordF (c1, (c2, (c3, c4))) (List.length xs - Int.toNat fr) xs (Int.toNat fr) (sm, (bl, (bp, bk)))).1)]), (3, .box [.dat tI ((ordF (c1, (c2, (c3, c4))) (List.length xs - Int.toNat fr) xs (Int.toNat fr) (sm, (bl, (bp, bk)))).2.1), .dat tI ((ordF (c1, (c2, (c3, c4))) (List.length xs - Int.toNat fr) xs (Int.toNat fr) (sm, (bl, (bp, bk)))).2.2.1), .dat (.slice .str) ((ordF (c1, (c2, (c3, c4))) (List.length xs - Int.toNat fr) xs (Int.toNat fr) (sm, (bl, (bp, bk)))).2.2.2)])]⟩
theorem sd58 (hE : EnvOk Tryd.prog En59) (h : R58) : EnvOk Tryd.prog En58 := env_add hE (gen_sound I58 hE mo Tryd.func58 rfl rfl (fun x hx => h x.1 x.2.1 x.2.2.1 x.2.2.2.1 x.2.2.2.2.1 x.2.2.2.2.2.1 x.2.2.2.2.2.2.1 x.2.2.2.2.2.2.2.1 x.2.2.2.2.2.2.2.2.1 x.2.2.2.2.2.2.2.2.2.1 hx))
def R58a : Prop := ∀ (fr : Int) (xs : (List Item)) (c1 : Int) (c2 : Int) (c3 : Int) (c4 : Int) (sm : Bool) (bl : Int) (bp : Int) (bk : (List Bytes)), (decide (0 ≤ fr) && decide (fr ≤ (List.length xs : Int)) && decide ((List.length xs : Int) - fr ≤ 1) && partsOk xs && decide (List.length xs ≤ 5)) = true → I58a.run ⟨[.slc 0, .dat tI fr, .clos 59 [.ptr 1 0, .ptr 2 0, .ptr 3 0]], [(0, .arr tItem xs), (1, .box [.slc 0, .dat tI c1, .dat tI c2, .dat tI c3, .dat tI c4]), (2, .box [.dat .bool sm]), (3, .box [.dat tI bl, .dat tI bp, .dat (.slice .str) bk])]⟩ = some ⟨[], [(0, .arr tItem (xs)), (1, .box [.slc 0, .dat tI (c1), .dat tI (c2), .dat tI (c3), .dat tI (c4)]), (2, .box [.dat .bool ((ordF (c1, (c2, (c3, c4))) (List.length xs - Int.toNat fr) xs (Int.toNat fr) (sm, (bl, (bp, bk)))).1)]), (3, .box [.dat tI ((ordF (c1, (c2, (c3, c4))) (List.length xs - Int.toNat fr) xs (Int.toNat fr) (sm, (bl, (bp, bk)))).2.1), .dat tI ((ordF (c1, (c2, (c3, c4))) (List.length xs - Int.toNat fr) xs (Int.toNat fr) (sm, (bl, (bp, bk)))).2.2.1), .dat (.slice .str) ((ordF (c1, (c2, (c3, c4))) (List.length xs - Int.toNat fr) xs (Int.toNat fr) (sm, (bl, (bp, bk)))).2.2.2)])]⟩
theorem sd58a (hE : EnvOk Tryd.prog En58) (h : R58a) : EnvOk Tryd.prog En58a := env_add hE (gen_sound I58a hE mo Tryd.func58 rfl rfl (fun x hx => h x.1 x.2.1 x.2.2.1 x.2.2.2.1 x.2.2.2.2.1 x.2.2.2.2.2.1 x.2.2.2.2.2.2.1 x.2.2.2.2.2.2.2.1 x.2.2.2.2.2.2.2.2.1 x.2.2.2.2.2.2.2.2.2.1 hx))
def R58b : Prop := ∀ (fr : Int) (xs : (List Item)) (c1 : Int) (c2 : Int) (c3 : Int) (c4 : Int) (sm : Bool) (bl : Int) (bp : Int) (bk : (List Bytes)), (decide (0 ≤ fr) && decide (fr ≤ (List.length xs : Int)) && decide ((List.length xs : Int) - fr ≤ 2) && partsOk xs && decide (List.length xs ≤ 5)) = true → I58b.run ⟨[.slc 0, .dat tI fr, .clos 59 [.ptr 1 0, .ptr 2 0, .ptr 3 0]], [(0, .arr tItem xs), (1, .box [.slc 0, .dat tI c1, .dat tI c2, .dat tI c3, .dat tI c4]), (2, .box [.dat .bool sm]), (3, .box [.dat tI bl, .dat tI bp, .dat (.slice .str) bk])]⟩ = some ⟨[], [(0, .arr tItem (xs)), (1, .box [.slc 0, .dat tI (c1), .dat tI (c2), .dat tI (c3), .dat tI (c4)]), (2, .box [.dat .bool ((ordF (c1, (c2, (c3, c4))) (List.length xs - Int.toNat fr) xs (Int.toNat fr) (sm, (bl, (bp, bk)))).1)]), (3, .box [.dat tI ((ordF (c1, (c2, (c3, c4))) (List.length xs - Int.toNat fr) xs (Int.toNat fr) (sm, (bl, (bp, bk)))).2.1), .dat tI ((ordF (c1, (c2, (c3, c4))) (List.length xs - Int.toNat fr) xs (Int.toNat fr) (sm, (bl, (bp, bk)))).2.2.1), .dat (.slice .str) ((ordF (c1, (c2, (c3, c4))) (List.length xs - Int.toNat fr) xs (Int.toNat fr) (sm, (bl, (bp, bk)))).2.2.2)])]⟩
theorem sd58b (hE : EnvOk Tryd.prog En58a) (h : R58b) : EnvOk Tryd.prog En58b := env_add hE (gen_sound I58b hE mo Tryd.func58 rfl rfl (fun x hx => h x.1 x.2.1 x.2.2.1 x.2.2.2.1 x.2.2.2.2.1 x.2.2.2.2.2.1 x.2.2.2.2.2.2.1 x.2.2.2.2.2.2.2.1 x.2.2.2.2.2.2.2.2.1 x.2.2.2.2.2.2.2.2.2.1 hx))
def R58c : Prop := ∀ (fr : Int) (xs : (List Item)) (c1 : Int) (c2 : Int) (c3 : Int) (c4 : Int) (sm : Bool) (bl : Int) (bp : Int) (bk : (List Bytes)), (decide (0 ≤ fr) && decide (fr ≤ (List.length xs : Int)) && decide ((List.length xs : Int) - fr ≤ 3) && partsOk xs && decide (List.length xs ≤ 5)) = true → I58c.run ⟨[.slc 0, .dat tI fr, .clos 59 [.ptr 1 0, .ptr 2 0, .ptr 3 0]], [(0, .arr tItem xs), (1, .box [.slc 0, .dat tI c1, .dat tI c2, .dat tI c3, .dat tI c4]), (2, .box [.dat .bool sm]), (3, .box [.dat tI bl, .dat tI bp, .dat (.slice .str) bk])]⟩ = some ⟨[], [(0, .arr tItem (xs)), (1, .box [.slc 0, .dat tI (c1), .dat tI (c2), .dat tI (c3), .dat tI (c4)]), (2, .box [.dat .bool ((ordF (c1, (c2, (c3, c4))) (List.length xs - Int.toNat fr) xs (Int.toNat fr) (sm, (bl, (bp, bk)))).1)]), (3, .box [.dat tI ((ordF (c1, (c2, (c3, c4))) (List.length xs - Int.toNat fr) xs (Int.toNat fr) (sm, (bl, (bp, bk)))).2.1), .dat tI ((ordF (c1, (c2, (c3, c4))) (List.length xs - Int.toNat fr) xs (Int.toNat fr) (sm, (bl, (bp, bk)))).2.2.1), .dat (.slice .str) ((ordF (c1, (c2, (c3, c4))) (List.length xs - Int.toNat fr) xs (Int.toNat fr) (sm, (bl, (bp, bk)))).2.2.2)])]⟩
theorem sd58c (hE : EnvOk Tryd.prog En58b) (h : R58c) : EnvOk Tryd.prog En58c := env_add hE (gen_sound I58c hE mo Tryd.func58 rfl rfl (fun x hx => h x.1 x.2.1 x.2.2.1 x.2.2.2.1 x.2.2.2.2.1 x.2.2.2.2.2.1 x.2.2.2.2.2.2.1 x.2.2.2.2.2.2.2.1 x.2.2.2.2.2.2.2.2.1 x.2.2.2.2.2.2.2.2.2.1 hx))
def R58d : Prop := ∀ (fr : Int) (xs : (List Item)) (c1 : Int) (c2 : Int) (c3 : Int) (c4 : Int) (sm : Bool) (bl : Int) (bp : Int) (bk : (List Bytes)), (decide (0 ≤ fr) && decide (fr ≤ (List.length xs : Int)) && decide ((List.length xs : Int) - fr ≤ 4) && partsOk xs && decide (List.length xs ≤ 5)) = true → I58d.run ⟨[.slc 0, .dat tI fr, .clos 59 [.ptr 1 0, .ptr 2 0, .ptr 3 0]], [(0, .arr tItem xs), (1, .box [.slc 0, .dat tI c1, .dat tI c2, .dat tI c3, .dat tI c4]), (2, .box [.dat .bool sm]), (3, .box [.dat tI bl, .dat tI bp, .dat (.slice .str) bk])]⟩ = some ⟨[], [(0, .arr tItem (xs)), (1, .box [.slc 0, .dat tI (c1), .dat tI (c2), .dat tI (c3), .dat tI (c4)]), (2, .box [.dat .bool ((ordF (c1, (c2, (c3, c4))) (List.length xs - Int.toNat fr) xs (Int.toNat fr) (sm, (bl, (bp, bk)))).1)]), (3, .box [.dat tI ((ordF (c1, (c2, (c3, c4))) (List.length xs - Int.toNat fr) xs (Int.toNat fr) (sm, (bl, (bp, bk)))).2.1), .dat tI ((ordF (c1, (c2, (c3, c4))) (List.length xs - Int.toNat fr) xs (Int.toNat fr) (sm, (bl, (bp, bk)))).2.2.1), .dat (.slice .str) ((ordF (c1, (c2, (c3, c4))) (List.length xs - Int.toNat fr) xs (Int.toNat fr) (sm, (bl, (bp, bk)))).2.2.2)])]⟩
theorem sd58d (hE : EnvOk Tryd.prog En58c) (h : R58d) : EnvOk Tryd.prog En58d := env_add hE (gen_sound I58d hE mo Tryd.func58 rfl rfl (fun x hx => h x.1 x.2.1 x.2.2.1 x.2.2.2.1 x.2.2.2.2.1 x.2.2.2.2.2.1 x.2.2.2.2.2.2.1 x.2.2.2.2.2.2.2.1 x.2.2.2.2.2.2.2.2.1 x.2.2.2.2.2.2.2.2.2.1 hx))
def R58e : Prop := ∀ (fr : Int) (xs : (List Item)) (c1 : Int) (c2 : Int) (c3 : Int) (c4 : Int) (sm : Bool) (bl : Int) (bp : Int) (bk : (List Bytes)), (decide (0 ≤ fr) && decide (fr ≤ (List.length xs : Int)) && decide ((List.length xs : Int) - fr ≤ 5) && partsOk xs && decide (List.length xs ≤ 5)) = true → I58e.run ⟨[.slc 0, .dat tI fr, .clos 59 [.ptr 1 0, .ptr 2 0, .ptr 3 0]], [(0, .arr tItem xs), (1, .box [.slc 0, .dat tI c1, .dat tI c2, .dat tI c3, .dat tI c4]), (2, .box [.dat .bool sm]), (3, .box [.dat tI bl, .dat tI bp, .dat (.slice .str) bk])]⟩ = some ⟨[], [(0, .arr tItem (xs)), (1, .box [.slc 0, .dat tI (c1), .dat tI (c2), .dat tI (c3), .dat tI (c4)]), (2, .box [.dat .bool ((ordF (c1, (c2, (c3, c4))) (List.length xs - Int.toNat fr) xs (Int.toNat fr) (sm, (bl, (bp, bk)))).1)]), (3, .box [.dat tI ((ordF (c1, (c2, (c3, c4))) (List.length xs - Int.toNat fr) xs (Int.toNat fr) (sm, (bl, (bp, bk)))).2.1), .dat tI ((ordF (c1, (c2, (c3, c4))) (List.length xs - Int.toNat fr) xs (Int.toNat fr) (sm, (bl, (bp, bk)))).2.2.1), .dat (.slice .str) ((ordF (c1, (c2, (c3, c4))) (List.length xs - Int.toNat fr) xs (Int.toNat fr) (sm, (bl, (bp, bk)))).2.2.2)])]⟩
theorem sd58e (hE : EnvOk Tryd.prog En58d) (h : R58e) : EnvOk Tryd.prog En58e := env_add hE (gen_sound I58e hE mo Tryd.func58 rfl rfl (fun x hx => h x.1 x.2.1 x.2.2.1 x.2.2.2.1 x.2.2.2.2.1 x.2.2.2.2.2.1 x.2.2.2.2.2.2.1 x.2.2.2.2.2.2.2.1 x.2.2.2.2.2.2.2.2.1 x.2.2.2.2.2.2.2.2.2.1 hx))
def R57 : Prop := ∀ (a0 : (List Item)), (decide (List.length a0 ≤ 1000)) = true → I57.run ⟨[.dat (.slice tItem) a0], []⟩ = some ⟨[.slc 0], [(0, .arr tItem (a0))]⟩
theorem sd57 (hE : EnvOk Tryd.prog En58e) (h : R57) : EnvOk Tryd.prog En57 := env_add hE (gen_sound I57 hE mo Tryd.func57 rfl rfl (fun x hx => h x.1 hx))
def R21 : Prop := ∀ (a0 : Prgm), (decide (List.length a0.1 ≤ 5)) = true → I21.run ⟨[.dat tPrgm a0], []⟩ = some ⟨[.dat (.slice .str) ((ordR a0).1), .dat tI ((ordR a0).2.1), .dat tI ((ordR a0).2.2)], []⟩
theorem sd21 (hE : EnvOk Tryd.prog En57) (h : R21) : EnvOk Tryd.prog En21 := env_add hE (gen_sound I21 hE mo Tryd.func21 rfl rfl (fun x hx => h x.1 hx))
def R62 : Prop := ∀ (a0 : Prgm) (a1 : (List Item)), (t62_ok a0 a1) = true → I62.run ⟨[.dat tPrgm a0, .dat (.slice tItem) a1], []⟩ = some ⟨[.dat tI (t62_0 a0 a1)], []⟩
theorem sd62 (hE : EnvOk Tryd.prog En21) (h : R62) : EnvOk Tryd.prog En62 := env_add hE (gen_sound I62 hE mo Tryd.func62 rfl rfl (fun x hx => h x.1 x.2.1 hx))
theorem rt62 (a0 : Prgm) (a1 : (List Item)) : I62.run ⟨[.dat tPrgm a0, .dat (.slice tItem) a1], []⟩ = (t62 a0 a1).map (fun r => ⟨[.dat tI r], []⟩) := by
  rw [f62_run a0 a1]
  unfold t62
  simp only [omap_cond, Option.map_some, Option.map_none]
theorem r62 : R62 := by
  intro a0 a1 h
  obtain ⟨r, hr⟩ := Option.isSome_iff_exists.1 h
  rw [rt62, hr]
  unfold t62_0
  rw [hr]; rfl
def R22 : Prop := ∀ (a0 : Prgm), (true) = true → I22.run ⟨[.dat tPrgm a0], []⟩ = some ⟨[.dat tI ((halfP a0).1), .dat tI ((halfP a0).2.1), .dat tI ((halfP a0).2.2)], []⟩
theorem sd22 (hE : EnvOk Tryd.prog En62) (h : R22) : EnvOk Tryd.prog En22 := env_add hE (gen_sound I22 hE mo Tryd.func22 rfl rfl (fun x hx => h x.1 hx))
def R23 : Prop := ∀ (a0 : (List Int)), (decide (List.length a0 ≤ 1000)) = true → I23.run ⟨[.dat (.slice tI) a0], []⟩ = some ⟨[.dat tI (firstE a0)], []⟩
theorem sd23 (hE : EnvOk Tryd.prog En22) (h : R23) : EnvOk Tryd.prog En23 := env_add hE (gen_sound I23 hE mo Tryd.func23 rfl rfl (fun x hx => h x.1 hx))
def R24 : Prop := ∀ (a0 : Bool) (a1 : Int), (true) = true → I24.run ⟨[.dat .bool a0, .dat tI a1], []⟩ = some ⟨[.dat tI (t24_0 a0 a1)], []⟩
theorem sd24 (hE : EnvOk Tryd.prog En23) (h : R24) : EnvOk Tryd.prog En24 := env_add hE (gen_sound I24 hE mo Tryd.func24 rfl rfl (fun x hx => h x.1 x.2.1 hx))
theorem r24 : R24 := by
  intro a0 a1 _
  rw [f24_run a0 a1]
  unfold t24_0 t24
  cases h2 : a0 with
  | true =>
    simp only [cond_true]
    all_goals rfl
  | false =>
    simp only [cond_false]
    all_goals rfl
def R48 : Prop := ∀ (a0 : Prgm) (a1 : Int), (decide (0 ≤ a1) && decide (a1 + 1 < (List.length a0.1 : Int)) && decide (List.length a0.1 ≤ 1000)) = true → I48.run ⟨[.dat tPrgm a0, .dat tI a1], []⟩ = some ⟨[.dat tI (behindF a0 a1)], []⟩
theorem sd48 (hE : EnvOk Tryd.prog En24) (h : R48) : EnvOk Tryd.prog En48 := env_add hE (gen_sound I48 hE mo Tryd.func48 rfl rfl (fun x hx => h x.1 x.2.1 hx))
def R15 : Prop := ∀ (a0 : Prgm) (a1 : Int), (decide (List.length a0.1 ≤ 1000)) = true → I15.run ⟨[.dat tPrgm a0, .dat tI a1], []⟩ = some ⟨[.slc 0], [(0, .arr tTimed (timGo a0 0 a1 a0.1))]⟩
theorem sd15 (hE : EnvOk Tryd.prog En48) (h : R15) : EnvOk Tryd.prog En15 := env_add hE (gen_sound I15 hE mo Tryd.func15 rfl rfl (fun x hx => h x.1 x.2.1 hx))
def R13 : Prop := ∀ (a0 : Prgm), (decide (List.length a0.1 ≤ 1000)) = true → I13.run ⟨[.dat tPrgm a0], []⟩ = some ⟨[.dat tI (longR a0)], []⟩
theorem sd13 (hE : EnvOk Tryd.prog En15) (h : R13) : EnvOk Tryd.prog En13 := env_add hE (gen_sound I13 hE mo Tryd.func13 rfl rfl (fun x hx => h x.1 hx))
def R109 : Prop := ∀ (a0 : Int), (true) = true → I109.run ⟨[.dat tI a0], []⟩ = some ⟨[.dat .bool (t109_0 a0)], []⟩
theorem sd109 (hE : EnvOk Tryd.prog En13) (h : R109) : EnvOk Tryd.prog En109 := env_add hE (gen_sound I109 hE mo Tryd.func109 rfl rfl (fun x hx => h x.1 hx))
theorem r109 : R109 := by
  intro a0 _
  exact f109_run a0
def R92 : Prop := ∀ (a0 : Int) (a1 : Int), (true) = true → I92.run ⟨[.dat tI a0, .dat tI a1], []⟩ = some ⟨[.dat tI (t92_0 a0 a1)], []⟩
theorem sd92 (hE : EnvOk Tryd.prog En109) (h : R92) : EnvOk Tryd.prog En92 := env_add hE (gen_sound I92 hE mo Tryd.func92 rfl rfl (fun x hx => h x.1 x.2.1 hx))
theorem r92 : R92 := by
  intro a0 a1 _
  rw [f92_run a0 a1]
  unfold t92_0 t92
  cases h2 : (t109_0 a0) with
  | true =>
    simp only [cond_true]
    cases h4 : (t109_0 a1) with
    | true =>
      simp only [cond_true]
      all_goals rfl
    | false =>
      simp only [cond_false]
      all_goals rfl
  | false =>
    simp only [cond_false]
    cases h4 : (t109_0 a1) with
    | true =>
      simp only [cond_true]
      all_goals rfl
    | false =>
      simp only [cond_false]
      cases h6 : (decide (a0 < a1)) with
      | true =>
        simp only [cond_true]
        all_goals rfl
      | false =>
        simp only [cond_false]
        cases h8 : (decide (a0 > a1)) with
        | true =>
          simp only [cond_true]
          all_goals rfl
        | false =>
          simp only [cond_false]
          all_goals rfl
def R64 : Prop := ∀ (a0 : (List Int)) (a1 : (List Int)), (decide (List.length a0 ≤ 1000)) = true → I64.run ⟨[.dat (.slice tI) a0, .dat (.slice tI) a1], []⟩ = some ⟨[.dat tI (cmpGo a0 a1)], []⟩
theorem sd64 (hE : EnvOk Tryd.prog En92) (h : R64) : EnvOk Tryd.prog En64 := env_add hE (gen_sound I64 hE mo Tryd.func64 rfl rfl (fun x hx => h x.1 x.2.1 hx))
def R94 : Prop := ∀ (a0 : Bytes) (its : (List Item)) (c1 : Int) (c2 : Int) (c3 : Int) (c4 : Int) (i : Int), (t94_ok a0 its c1 c2 c3 c4 i) = true → I94.run ⟨[.dat .str a0, .ptr 0 0, .ptr 1 0], [(0, .box [.dat (.slice tItem) its, .dat tI c1, .dat tI c2, .dat tI c3, .dat tI c4]), (1, .box [.dat tI i])]⟩ = some ⟨[.dat .bool (t94_0 a0 its c1 c2 c3 c4 i)], [(0, .box [.dat (.slice tItem) its, .dat tI c1, .dat tI c2, .dat tI c3, .dat tI c4]), (1, .box [.dat tI i])]⟩
theorem sd94 (hE : EnvOk Tryd.prog En64) (h : R94) : EnvOk Tryd.prog En94 := env_add hE (gen_sound I94 hE mo Tryd.func94 rfl rfl (fun x hx => h x.1 x.2.1 x.2.2.1 x.2.2.2.1 x.2.2.2.2.1 x.2.2.2.2.2.1 x.2.2.2.2.2.2.1 hx))
theorem rt94 (a0 : Bytes) (its : (List Item)) (c1 : Int) (c2 : Int) (c3 : Int) (c4 : Int) (i : Int) : I94.run ⟨[.dat .str a0, .ptr 0 0, .ptr 1 0], [(0, .box [.dat (.slice tItem) its, .dat tI c1, .dat tI c2, .dat tI c3, .dat tI c4]), (1, .box [.dat tI i])]⟩ = (t94 a0 its c1 c2 c3 c4 i).map (fun r => ⟨[.dat .bool r], [(0, .box [.dat (.slice tItem) its, .dat tI c1, .dat tI c2, .dat tI c3, .dat tI c4]), (1, .box [.dat tI i])]⟩) := by
  rw [f94_run a0 its c1 c2 c3 c4 i]
  unfold t94
  simp only [omap_cond, Option.map_some, Option.map_none]
theorem r94 : R94 := by
  intro a0 its c1 c2 c3 c4 i h
  obtain ⟨r, hr⟩ := Option.isSome_iff_exists.1 h
  rw [rt94, hr]
  unfold t94_0
  rw [hr]; rfl
def R110a : Prop := ∀ (a0 : (List Bytes)) (its : (List Item)) (c1 : Int) (c2 : Int) (c3 : Int) (c4 : Int) (i : Int), (decide (List.length a0 ≤ 1000) && decide (List.length its ≤ 1000) && partsOk its && decide (0 ≤ i) && decide (i + 1 < (List.length its : Int))) = true → I110a.run ⟨[.dat (.slice .str) a0, .clos 94 [.ptr 0 0, .ptr 1 0]], [(0, .box [.dat (.slice tItem) its, .dat tI c1, .dat tI c2, .dat tI c3, .dat tI c4]), (1, .box [.dat tI i])]⟩ = some ⟨[.dat tI (idxBy (fun o => t94_0 o its c1 c2 c3 c4 i) a0 0)], [(0, .box [.dat (.slice tItem) (its), .dat tI (c1), .dat tI (c2), .dat tI (c3), .dat tI (c4)]), (1, .box [.dat tI (i)])]⟩
theorem sd110a (hE : EnvOk Tryd.prog En94) (h : R110a) : EnvOk Tryd.prog En110a := env_or hE rfl (gen_sound I110a hE mo Tryd.func110 rfl rfl (fun x hx => h x.1 x.2.1 x.2.2.1 x.2.2.2.1 x.2.2.2.2.1 x.2.2.2.2.2.1 x.2.2.2.2.2.2.1 hx))
def R93a : Prop := ∀ (a0 : (List Bytes)) (its : (List Item)) (c1 : Int) (c2 : Int) (c3 : Int) (c4 : Int) (i : Int), (t93a_ok a0 its c1 c2 c3 c4 i) = true → I93a.run ⟨[.dat (.slice .str) a0, .clos 94 [.ptr 0 0, .ptr 1 0]], [(0, .box [.dat (.slice tItem) its, .dat tI c1, .dat tI c2, .dat tI c3, .dat tI c4]), (1, .box [.dat tI i])]⟩ = some ⟨[.dat .bool (t93a_0 a0 its c1 c2 c3 c4 i)], [(0, .box [.dat (.slice tItem) its, .dat tI c1, .dat tI c2, .dat tI c3, .dat tI c4]), (1, .box [.dat tI i])]⟩
theorem sd93a (hE : EnvOk Tryd.prog En110a) (h : R93a) : EnvOk Tryd.prog En93a := env_or hE rfl (gen_sound I93a hE mo Tryd.func93 rfl rfl (fun x hx => h x.1 x.2.1 x.2.2.1 x.2.2.2.1 x.2.2.2.2.1 x.2.2.2.2.2.1 x.2.2.2.2.2.2.1 hx))
theorem rt93a (a0 : (List Bytes)) (its : (List Item)) (c1 : Int) (c2 : Int) (c3 : Int) (c4 : Int) (i : Int) : I93a.run ⟨[.dat (.slice .str) a0, .clos 94 [.ptr 0 0, .ptr 1 0]], [(0, .box [.dat (.slice tItem) its, .dat tI c1, .dat tI c2, .dat tI c3, .dat tI c4]), (1, .box [.dat tI i])]⟩ = (t93a a0 its c1 c2 c3 c4 i).map (fun r => ⟨[.dat .bool r], [(0, .box [.dat (.slice tItem) its, .dat tI c1, .dat tI c2, .dat tI c3, .dat tI c4]), (1, .box [.dat tI i])]⟩) := by
  rw [f93a_run a0 its c1 c2 c3 c4 i]
  unfold t93a
  simp only [omap_cond, Option.map_some, Option.map_none]
theorem r93a : R93a := by
  intro a0 its c1 c2 c3 c4 i h
  obtain ⟨r, hr⟩ := Option.isSome_iff_exists.1 h
  rw [rt93a, hr]
  unfold t93a_0
  rw [hr]; rfl
def R65 : Prop := ∀ (a0 : Prgm), (decide (List.length a0.1 ≤ 1000) && partsOk a0.1) = true → I65.run ⟨[.dat tPrgm a0], []⟩ = some ⟨[.dat tI (pairsF a0.2.2.2.2 0 a0.1 0)], []⟩
theorem sd65 (hE : EnvOk Tryd.prog En93a) (h : R65) : EnvOk Tryd.prog En65 := env_add hE (gen_sound I65 hE mo Tryd.func65 rfl rfl (fun x hx => h x.1 hx))
def R67 : Prop := ∀ (a0 : (List Item)), (decide (List.length a0 ≤ 1000)) = true → I67.run ⟨[.dat (.slice tItem) a0], []⟩ = some ⟨[.dat (.slice .str) (List.map (fun o => o.1) a0)], []⟩
theorem sd67 (hE : EnvOk Tryd.prog En65) (h : R67) : EnvOk Tryd.prog En67 := env_add hE (gen_sound I67 hE mo Tryd.func67 rfl rfl (fun x hx => h x.1 hx))
def R63 : Prop := ∀ (a0 : Prgm) (a1 : Prgm), (decide (List.length a0.1 ≤ 1000) && partsOk a0.1 && decide (List.length a1.1 ≤ 1000) && partsOk a1.1) = true → I63.run ⟨[.dat tPrgm a0, .dat tPrgm a1], []⟩ = some ⟨[.dat .bool (betR a0 a1)], []⟩
theorem sd63 (hE : EnvOk Tryd.prog En67) (h : R63) : EnvOk Tryd.prog En63 := env_add hE (gen_sound I63 hE mo Tryd.func63 rfl rfl (fun x hx => h x.1 x.2.1 hx))
def R68 : Prop := ∀ (a0 : (List Item)) (its : (List Item)) (c1 : Int) (c2 : Int) (c3 : Int) (c4 : Int) (sm : Bool) (qi : (List Item)) (q1 : Int) (q2 : Int) (q3 : Int) (q4 : Int), (decide (List.length its ≤ 5) && decide (List.length a0 ≤ List.length its) && decide (List.length its - List.length a0 ≤ 0) && partsOk its && partsOk a0 && decide (List.length qi ≤ 1000) && partsOk qi) = true → I68.run ⟨[.dat (.slice tItem) a0, .ptr 0 0, .ptr 1 0, .ptr 2 0, .ptr 3 0, .ptr 4 0], [(0, .box [.dat (.slice tItem) its, .dat tI c1, .dat tI c2, .dat tI c3, .dat tI c4]), (1, .box [.dat .bool sm]), (2, .box [.clos 63 []]), (3, .box [.dat (.slice tItem) qi, .dat tI q1, .dat tI q2, .dat tI q3, .dat tI q4]), (4, .box [.clos 68 [.ptr 0 0, .ptr 1 0, .ptr 2 0, .ptr 3 0, .ptr 4 0]])]⟩ = some ⟨[], [(0, .box [.dat (.slice tItem) (its), .dat tI (c1), .dat tI (c2), .dat tI (c3), .dat tI (c4)]), (1, .box [.dat .bool ((tryF its (c1, (c2, (c3, c4))) (List.length its - List.length a0) a0 (sm, (qi, (q1, (q2, (q3, q4)))))).1)]), (2, .box [.clos 63 []]), (3, .box [.dat (.slice tItem) ((tryF its (c1, (c2, (c3, c4))) (List.length its - List.length a0) a0 (sm, (qi, (q1, (q2, (q3, q4)))))).2.1), .dat tI ((tryF its (c1, (c2, (c3, c4))) (List.length its - List.length a0) a0 (sm, (qi, (q1, (q2, (q3, q4)))))).2.2.1), .dat tI ((tryF its (c1, (c2, (c3, c4))) (List.length its - List.length a0) a0 (sm, (qi, (q1, (q2, (q3, q4)))))).2.2.2.1), .dat tI ((tryF its (c1, (c2, (c3, c4))) (List.length its - List.length a0) a0 (sm, (qi, (q1, (q2, (q3, q4)))))).2.2.2.2.1), .dat tI ((tryF its (c1, (c2, (c3, c4))) (List.length its - List.length a0) a0 (sm, (qi, (q1, (q2, (q3, q4)))))).2.2.2.2.2)]), (4, .box [.clos 68 [.ptr 0 0, .ptr 1 0, .ptr 2 0, .ptr 3 0, .ptr 4 0]])]⟩
theorem sd68 (hE : EnvOk Tryd.prog En63) (h : R68) : EnvOk Tryd.prog En68 := env_add hE (gen_sound I68 hE mo Tryd.func68 rfl rfl (fun x hx => h x.1 x.2.1 x.2.2.1 x.2.2.2.1 x.2.2.2.2.1 x.2.2.2.2.2.1 x.2.2.2.2.2.2.1 x.2.2.2.2.2.2.2.1 x.2.2.2.2.2.2.2.2.1 x.2.2.2.2.2.2.2.2.2.1 x.2.2.2.2.2.2.2.2.2.2.1 x.2.2.2.2.2.2.2.2.2.2.2.1 hx))
def R68a : Prop := ∀ (a0 : (List Item)) (its : (List Item)) (c1 : Int) (c2 : Int) (c3 : Int) (c4 : Int) (sm : Bool) (qi : (List Item)) (q1 : Int) (q2 : Int) (q3 : Int) (q4 : Int), (decide (List.length its ≤ 5) && decide (List.length a0 ≤ List.length its) && decide (List.length its - List.length a0 ≤ 1) && partsOk its && partsOk a0 && decide (List.length qi ≤ 1000) && partsOk qi) = true → I68a.run ⟨[.dat (.slice tItem) a0, .ptr 0 0, .ptr 1 0, .ptr 2 0, .ptr 3 0, .ptr 4 0], [(0, .box [.dat (.slice tItem) its, .dat tI c1, .dat tI c2, .dat tI c3, .dat tI c4]), (1, .box [.dat .bool sm]), (2, .box [.clos 63 []]), (3, .box [.dat (.slice tItem) qi, .dat tI q1, .dat tI q2, .dat tI q3, .dat tI q4]), (4, .box [.clos 68 [.ptr 0 0, .ptr 1 0, .ptr 2 0, .ptr 3 0, .ptr 4 0]])]⟩ = some ⟨[], [(0, .box [.dat (.slice tItem) (its), .dat tI (c1), .dat tI (c2), .dat tI (c3), .dat tI (c4)]), (1, .box [.dat .bool ((tryF its (c1, (c2, (c3, c4))) (List.length its - List.length a0) a0 (sm, (qi, (q1, (q2, (q3, q4)))))).1)]), (2, .box [.clos 63 []]), (3, .box [.dat (.slice tItem) ((tryF its (c1, (c2, (c3, c4))) (List.length its - List.length a0) a0 (sm, (qi, (q1, (q2, (q3, q4)))))).2.1), .dat tI ((tryF its (c1, (c2, (c3, c4))) (List.length its - List.length a0) a0 (sm, (qi, (q1, (q2, (q3, q4)))))).2.2.1), .dat tI ((tryF its (c1, (c2, (c3, c4))) (List.length its - List.length a0) a0 (sm, (qi, (q1, (q2, (q3, q4)))))).2.2.2.1), .dat tI ((tryF its (c1, (c2, (c3, c4))) (List.length its - List.length a0) a0 (sm, (qi, (q1, (q2, (q3, q4)))))).2.2.2.2.1), .dat tI ((tryF its (c1, (c2, (c3, c4))) (List.length its - List.length a0) a0 (sm, (qi, (q1, (q2, (q3, q4)))))).2.2.2.2.2)]), (4, .box [.clos 68 [.ptr 0 0, .ptr 1 0, .ptr 2 0, .ptr 3 0, .ptr 4 0]])]⟩
theorem sd68a (hE : EnvOk Tryd.prog En68) (h : R68a) : EnvOk Tryd.prog En68a := env_add hE (gen_sound I68a hE mo Tryd.func68 rfl rfl (fun x hx => h x.1 x.2.1 x.2.2.1 x.2.2.2.1 x.2.2.2.2.1 x.2.2.2.2.2.1 x.2.2.2.2.2.2.1 x.2.2.2.2.2.2.2.1 x.2.2.2.2.2.2.2.2.1 x.2.2.2.2.2.2.2.2.2.1 x.2.2.2.2.2.2.2.2.2.2.1 x.2.2.2.2.2.2.2.2.2.2.2.1 hx))
def R68b : Prop := ∀ (a0 : (List Item)) (its : (List Item)) (c1 : Int) (c2 : Int) (c3 : Int) (c4 : Int) (sm : Bool) (qi : (List Item)) (q1 : Int) (q2 : Int) (q3 : Int) (q4 : Int), (decide (List.length its ≤ 5) && decide (List.length a0 ≤ List.length its) && decide (List.length its - List.length a0 ≤ 2) && partsOk its && partsOk a0 && decide (List.length qi ≤ 1000) && partsOk qi) = true → I68b.run ⟨[.dat (.slice tItem) a0, .ptr 0 0, .ptr 1 0, .ptr 2 0, .ptr 3 0, .ptr 4 0], [(0, .box [.dat (.slice tItem) its, .dat tI c1, .dat tI c2, .dat tI c3, .dat tI c4]), (1, .box [.dat .bool sm]), (2, .box [.clos 63 []]), (3, .box [.dat (.slice tItem) qi, .dat tI q1, .dat tI q2, .dat tI q3, .dat tI q4]), (4, .box [.clos 68 [.ptr 0 0, .ptr 1 0, .ptr 2 0, .ptr 3 0, .ptr 4 0]])]⟩ = some ⟨[], [(0, .box [.dat (.slice tItem) (its), .dat tI (c1), .dat tI (c2), .dat tI (c3), .dat tI (c4)]), (1, .box [.dat .bool ((tryF its (c1, (c2, (c3, c4))) (List.length its - List.length a0) a0 (sm, (qi, (q1, (q2, (q3, q4)))))).1)]), (2, .box [.clos 63 []]), (3, .box [.dat (.slice tItem) ((tryF its (c1, (c2, (c3, c4))) (List.length its - List.length a0) a0 (sm, (qi, (q1, (q2, (q3, q4)))))).2.1), .dat tI ((tryF its (c1, (c2, (c3, c4))) (List.length its - List.length a0) a0 (sm, (qi, (q1, (q2, (q3, q4)))))).2.2.1), .dat tI ((tryF its (c1, (c2, (c3, c4))) (List.length its - List.length a0) a0 (sm, (qi, (q1, (q2, (q3, q4)))))).2.2.2.1), .dat tI ((tryF its (c1, (c2, (c3, c4))) (List.length its - List.length a0) a0 (sm, (qi, (q1, (q2, (q3, q4)))))).2.2.2.2.1), .dat tI ((tryF its (c1, (c2, (c3, c4))) (List.length its - List.length a0) a0 (sm, (qi, (q1, (q2, (q3, q4)))))).2.2.2.2.2)]), (4, .box [.clos 68 [.ptr 0 0, .ptr 1 0, .ptr 2 0, .ptr 3 0, .ptr 4 0]])]⟩
theorem sd68b (hE : EnvOk Tryd.prog En68a) (h : R68b) : EnvOk Tryd.prog En68b := env_add hE (gen_sound I68b hE mo Tryd.func68 rfl rfl (fun x hx => h x.1 x.2.1 x.2.2.1 x.2.2.2.1 x.2.2.2.2.1 x.2.2.2.2.2.1 x.2.2.2.2.2.2.1 x.2.2.2.2.2.2.2.1 x.2.2.2.2.2.2.2.2.1 x.2.2.2.2.2.2.2.2.2.1 x.2.2.2.2.2.2.2.2.2.2.1 x.2.2.2.2.2.2.2.2.2.2.2.1 hx))
def R68c : Prop := ∀ (a0 : (List Item)) (its : (List Item)) (c1 : Int) (c2 : Int) (c3 : Int) (c4 : Int) (sm : Bool) (qi : (List Item)) (q1 : Int) (q2 : Int) (q3 : Int) (q4 : Int), (decide (List.length its ≤ 5) && decide (List.length a0 ≤ List.length its) && decide (List.length its - List.length a0 ≤ 3) && partsOk its && partsOk a0 && decide (List.length qi ≤ 1000) && partsOk qi) = true → I68c.run ⟨[.dat (.slice tItem) a0, .ptr 0 0, .ptr 1 0, .ptr 2 0, .ptr 3 0, .ptr 4 0], [(0, .box [.dat (.slice tItem) its, .dat tI c1, .dat tI c2, .dat tI c3, .dat tI c4]), (1, .box [.dat .bool sm]), (2, .box [.clos 63 []]), (3, .box [.dat (.slice tItem) qi, .dat tI q1, .dat tI q2, .dat tI q3, .dat tI q4]), (4, .box [.clos 68 [.ptr 0 0, .ptr 1 0, .ptr 2 0, .ptr 3 0, .ptr 4 0]])]⟩ = some ⟨[], [(0, .box [.dat (.slice tItem) (its), .dat tI (c1), .dat tI (c2), .dat tI (c3), .dat tI (c4)]), (1, .box [.dat .bool ((tryF its (c1, (c2, (c3, c4))) (List.length its - List.length a0) a0 (sm, (qi, (q1, (q2, (q3, q4)))))).1)]), (2, .box [.clos 63 []]), (3, .box [.dat (.slice tItem) ((tryF its (c1, (c2, (c3, c4))) (List.length its - List.length a0) a0 (sm, (qi, (q1, (q2, (q3, q4)))))).2.1), .dat tI ((tryF its (c1, (c2, (c3, c4))) (List.length its - List.length a0) a0 (sm, (qi, (q1, (q2, (q3, q4)))))).2.2.1), .dat tI ((tryF its (c1, (c2, (c3, c4))) (List.length its - List.length a0) a0 (sm, (qi, (q1, (q2, (q3, q4)))))).2.2.2.1), .dat tI ((tryF its (c1, (c2, (c3, c4))) (List.length its - List.length a0) a0 (sm, (qi, (q1, (q2, (q3, q4)))))).2.2.2.2.1), .dat tI ((tryF its (c1, (c2, (c3, c4))) (List.length its - List.length a0) a0 (sm, (qi, (q1, (q2, (q3, q4)))))).2.2.2.2.2)]), (4, .box [.clos 68 [.ptr 0 0, .ptr 1 0, .ptr 2 0, .ptr 3 0, .ptr 4 0]])]⟩
theorem sd68c (hE : EnvOk Tryd.prog En68b) (h : R68c) : EnvOk Tryd.prog En68c := env_add hE (gen_sound I68c hE mo Tryd.func68 rfl rfl (fun x hx => h x.1 x.2.1 x.2.2.1 x.2.2.2.1 x.2.2.2.2.1 x.2.2.2.2.2.1 x.2.2.2.2.2.2.1 x.2.2.2.2.2.2.2.1 x.2.2.2.2.2.2.2.2.1 x.2.2.2.2.2.2.2.2.2.1 x.2.2.2.2.2.2.2.2.2.2.1 x.2.2.2.2.2.2.2.2.2.2.2.1 hx))
def R68d : Prop := ∀ (a0 : (List Item)) (its : (List Item)) (c1 : Int) (c2 : Int) (c3 : Int) (c4 : Int) (sm : Bool) (qi : (List Item)) (q1 : Int) (q2 : Int) (q3 : Int) (q4 : Int), (decide (List.length its ≤ 5) && decide (List.length a0 ≤ List.length its) && decide (List.length its - List.length a0 ≤ 4) && partsOk its && partsOk a0 && decide (List.length qi ≤ 1000) && partsOk qi) = true → I68d.run ⟨[.dat (.slice tItem) a0, .ptr 0 0, .ptr 1 0, .ptr 2 0, .ptr 3 0, .ptr 4 0], [(0, .box [.dat (.slice tItem) its, .dat tI c1, .dat tI c2, .dat tI c3, .dat tI c4]), (1, .box [.dat .bool sm]), (2, .box [.clos 63 []]), (3, .box [.dat (.slice tItem) qi, .dat tI q1, .dat tI q2, .dat tI q3, .dat tI q4]), (4, .box [.clos 68 [.ptr 0 0, .ptr 1 0, .ptr 2 0, .ptr 3 0, .ptr 4 0]])]⟩ = some ⟨[], [(0, .box [.dat (.slice tItem) (its), .dat tI (c1), .dat tI (c2), .dat tI (c3), .dat tI (c4)]), (1, .box [.dat .bool ((tryF its (c1, (c2, (c3, c4))) (List.length its - List.length a0) a0 (sm, (qi, (q1, (q2, (q3, q4)))))).1)]), (2, .box [.clos 63 []]), (3, .box [.dat (.slice tItem) ((tryF its (c1, (c2, (c3, c4))) (List.length its - List.length a0) a0 (sm, (qi, (q1, (q2, (q3, q4)))))).2.1), .dat tI ((tryF its (c1, (c2, (c3, c4))) (List.length its - List.length a0) a0 (sm, (qi, (q1, (q2, (q3, q4)))))).2.2.1), .dat tI ((tryF its (c1, (c2, (c3, c4))) (List.length its - List.length a0) a0 (sm, (qi, (q1, (q2, (q3, q4)))))).2.2.2.1), .dat tI ((tryF its (c1, (c2, (c3, c4))) (List.length its - List.length a0) a0 (sm, (qi, (q1, (q2, (q3, q4)))))).2.2.2.2.1), .dat tI ((tryF its (c1, (c2, (c3, c4))) (List.length its - List.length a0) a0 (sm, (qi, (q1, (q2, (q3, q4)))))).2.2.2.2.2)]), (4, .box [.clos 68 [.ptr 0 0, .ptr 1 0, .ptr 2 0, .ptr 3 0, .ptr 4 0]])]⟩
theorem sd68d (hE : EnvOk Tryd.prog En68c) (h : R68d) : EnvOk Tryd.prog En68d := env_add hE (gen_sound I68d hE mo Tryd.func68 rfl rfl (fun x hx => h x.1 x.2.1 x.2.2.1 x.2.2.2.1 x.2.2.2.2.1 x.2.2.2.2.2.1 x.2.2.2.2.2.2.1 x.2.2.2.2.2.2.2.1 x.2.2.2.2.2.2.2.2.1 x.2.2.2.2.2.2.2.2.2.1 x.2.2.2.2.2.2.2.2.2.2.1 x.2.2.2.2.2.2.2.2.2.2.2.1 hx))
def R68e : Prop := ∀ (a0 : (List Item)) (its : (List Item)) (c1 : Int) (c2 : Int) (c3 : Int) (c4 : Int) (sm : Bool) (qi : (List Item)) (q1 : Int) (q2 : Int) (q3 : Int) (q4 : Int), (decide (List.length its ≤ 5) && decide (List.length a0 ≤ List.length its) && decide (List.length its - List.length a0 ≤ 5) && partsOk its && partsOk a0 && decide (List.length qi ≤ 1000) && partsOk qi) = true → I68e.run ⟨[.dat (.slice tItem) a0, .ptr 0 0, .ptr 1 0, .ptr 2 0, .ptr 3 0, .ptr 4 0], [(0, .box [.dat (.slice tItem) its, .dat tI c1, .dat tI c2, .dat tI c3, .dat tI c4]), (1, .box [.dat .bool sm]), (2, .box [.clos 63 []]), (3, .box [.dat (.slice tItem) qi, .dat tI q1, .dat tI q2, .dat tI q3, .dat tI q4]), (4, .box [.clos 68 [.ptr 0 0, .ptr 1 0, .ptr 2 0, .ptr 3 0, .ptr 4 0]])]⟩ = some ⟨[], [(0, .box [.dat (.slice tItem) (its), .dat tI (c1), .dat tI (c2), .dat tI (c3), .dat tI (c4)]), (1, .box [.dat .bool ((tryF its (c1, (c2, (c3, c4))) (List.length its - List.length a0) a0 (sm, (qi, (q1, (q2, (q3, q4)))))).1)]), (2, .box [.clos 63 []]), (3, .box [.dat (.slice tItem) ((tryF its (c1, (c2, (c3, c4))) (List.length its - List.length a0) a0 (sm, (qi, (q1, (q2, (q3, q4)))))).2.1), .dat tI ((tryF its (c1, (c2, (c3, c4))) (List.length its - List.length a0) a0 (sm, (qi, (q1, (q2, (q3, q4)))))).2.2.1), .dat tI ((tryF its (c1, (c2, (c3, c4))) (List.length its - List.length a0) a0 (sm, (qi, (q1, (q2, (q3, q4)))))).2.2.2.1), .dat tI ((tryF its (c1, (c2, (c3, c4))) (List.length its - List.length a0) a0 (sm, (qi, (q1, (q2, (q3, q4)))))).2.2.2.2.1), .dat tI ((tryF its (c1, (c2, (c3, c4))) (List.length its - List.length a0) a0 (sm, (qi, (q1, (q2, (q3, q4)))))).2.2.2.2.2)]), (4, .box [.clos 68 [.ptr 0 0, .ptr 1 0, .ptr 2 0, .ptr 3 0, .ptr 4 0]])]⟩
theorem sd68e (hE : EnvOk Tryd.prog En68d) (h : R68e) : EnvOk Tryd.prog En68e := env_add hE (gen_sound I68e hE mo Tryd.func68 rfl rfl (fun x hx => h x.1 x.2.1 x.2.2.1 x.2.2.2.1 x.2.2.2.2.1 x.2.2.2.2.2.1 x.2.2.2.2.2.2.1 x.2.2.2.2.2.2.2.1 x.2.2.2.2.2.2.2.2.1 x.2.2.2.2.2.2.2.2.2.1 x.2.2.2.2.2.2.2.2.2.2.1 x.2.2.2.2.2.2.2.2.2.2.2.1 hx))
def R25 : Prop := ∀ (a0 : Prgm), (decide (List.length a0.1 ≤ 5) && partsOk a0.1) = true → I25.run ⟨[.dat tPrgm a0], []⟩ = some ⟨[.dat (.slice .str) ((bestR a0).1), .dat tI ((bestR a0).2)], []⟩
theorem sd25 (hE : EnvOk Tryd.prog En68e) (h : R25) : EnvOk Tryd.prog En25 := env_add hE (gen_sound I25 hE mo Tryd.func25 rfl rfl (fun x hx => h x.1 hx))
def R26 : Prop := ∀ (a0 : Prgm), (decide (List.length a0.1 ≤ 1000)) = true → I26.run ⟨[.dat tPrgm a0], []⟩ = some ⟨[.dat tI ((halfR a0).1), .dat tI ((halfR a0).2)], []⟩
theorem sd26 (hE : EnvOk Tryd.prog En25) (h : R26) : EnvOk Tryd.prog En26 := env_add hE (gen_sound I26 hE mo Tryd.func26 rfl rfl (fun x hx => h x.1 hx))
def R27 : Prop := ∀ (a0 : (List Bytes)) (a1 : (List Bytes)), (decide (List.length a0 ≤ 1000)) = true → I27.run ⟨[.dat (.slice .str) a0, .dat (.slice .str) a1], []⟩ = some ⟨[.dat .bool (a0 == a1)], []⟩
theorem sd27 (hE : EnvOk Tryd.prog En26) (h : R27) : EnvOk Tryd.prog En27 := env_add hE (gen_sound I27 hE mo Tryd.func27 rfl rfl (fun x hx => h x.1 x.2.1 hx))
def R28 : Prop := ∀ (a0 : Int) (L : (List Int)) (at_ : Int), (atOk 100 at_ && decide (0 ≤ a0) && decide (a0 ≤ 5)) = true → I28.run ⟨[.ptr 0 0, .dat tI a0], [(0, .box [.dat (.slice tI) L, .dat tI at_])]⟩ = some ⟨[.dat (.slice tI) ((aOrder L at_ a0).2)], [(0, .box [.dat (.slice tI) (L), .dat tI ((aOrder L at_ a0).1)])]⟩
theorem sd28 (hE : EnvOk Tryd.prog En27) (h : R28) : EnvOk Tryd.prog En28 := env_add hE (gen_sound I28 hE mo Tryd.func28 rfl rfl (fun x hx => h x.1 x.2.1 x.2.2.1 hx))
def R96 : Prop := ∀ (a0 : Item) (k : Bytes), (true) = true → I96.run ⟨[.dat tItem a0, .ptr 0 0], [(0, .box [.dat .str k])]⟩ = some ⟨[.dat .bool (t96_0 a0 k)], [(0, .box [.dat .str k])]⟩
theorem sd96 (hE : EnvOk Tryd.prog En28) (h : R96) : EnvOk Tryd.prog En96 := env_add hE (gen_sound I96 hE mo Tryd.func96 rfl rfl (fun x hx => h x.1 x.2.1 hx))
theorem r96 : R96 := by
  intro a0 k _
  exact f96_run a0 k
def R88b : Prop := ∀ (a0 : (List Item)) (k : Bytes), (decide (List.length a0 ≤ 1000)) = true → I88b.run ⟨[.dat (.slice tItem) a0, .clos 96 [.ptr 0 0]], [(0, .box [.dat .str k])]⟩ = some ⟨[.dat tI (idxBy (fun o => t96_0 o k) a0 0)], [(0, .box [.dat .str (k)])]⟩
theorem sd88b (hE : EnvOk Tryd.prog En96) (h : R88b) : EnvOk Tryd.prog En88b := env_or hE rfl (gen_sound I88b hE mo Tryd.func88 rfl rfl (fun x hx => h x.1 x.2.1 hx))
def R69 : Prop := ∀ (a0 : Prgm) (a1 : Bytes), (t69_ok a0 a1) = true → I69.run ⟨[.dat tPrgm a0, .dat .str a1], []⟩ = some ⟨[.dat tI (t69_0 a0 a1)], []⟩
theorem sd69 (hE : EnvOk Tryd.prog En88b) (h : R69) : EnvOk Tryd.prog En69 := env_add hE (gen_sound I69 hE mo Tryd.func69 rfl rfl (fun x hx => h x.1 x.2.1 hx))
theorem rt69 (a0 : Prgm) (a1 : Bytes) : I69.run ⟨[.dat tPrgm a0, .dat .str a1], []⟩ = (t69 a0 a1).map (fun r => ⟨[.dat tI r], []⟩) := by
  rw [f69_run a0 a1]
  unfold t69
  simp only [omap_cond, Option.map_some, Option.map_none]
theorem r69 : R69 := by
  intro a0 a1 h
  obtain ⟨r, hr⟩ := Option.isSome_iff_exists.1 h
  rw [rt69, hr]
  unfold t69_0
  rw [hr]; rfl
def R71 : Prop := ∀ (a0 : Item), (t71_ok a0) = true → I71.run ⟨[.dat tItem a0], []⟩ = some ⟨[.dat tItem (t71_0 a0)], []⟩
theorem sd71 (hE : EnvOk Tryd.prog En69) (h : R71) : EnvOk Tryd.prog En71 := env_add hE (gen_sound I71 hE mo Tryd.func71 rfl rfl (fun x hx => h x.1 hx))
theorem rt71 (a0 : Item) : I71.run ⟨[.dat tItem a0], []⟩ = (t71 a0).map (fun r => ⟨[.dat tItem r], []⟩) := by
  rw [f71_run a0]
  unfold t71
  simp only [omap_cond, Option.map_some, Option.map_none]
theorem r71 : R71 := by
  intro a0 h
  obtain ⟨r, hr⟩ := Option.isSome_iff_exists.1 h
  rw [rt71, hr]
  unfold t71_0
  rw [hr]; rfl
def R32 : Prop := ∀ (a0 : Prgm) (a1 : (List Bytes)), (decide (List.length a1 ≤ 1000)) = true → I32.run ⟨[.dat tPrgm a0, .dat (.slice .str) a1], []⟩ = some ⟨[.dat tPrgm ((movP a0 a1).1), .dat tI ((movP a0 a1).2)], []⟩
theorem sd32 (hE : EnvOk Tryd.prog En71) (h : R32) : EnvOk Tryd.prog En32 := env_add hE (gen_sound I32 hE mo Tryd.func32 rfl rfl (fun x hx => h x.1 x.2.1 hx))
def R33 : Prop := ∀ (a0 : Prgm) (a1 : (List Bytes)), (decide (List.length a0.1 ≤ 1000) && decide (List.length a1 ≤ 1000)) = true → I33.run ⟨[.dat tPrgm a0, .dat (.slice .str) a1], []⟩ = some ⟨[.dat tPrgm ((movR a0 a1).1), .dat tI ((movR a0 a1).2)], []⟩
theorem sd33 (hE : EnvOk Tryd.prog En32) (h : R33) : EnvOk Tryd.prog En33 := env_add hE (gen_sound I33 hE mo Tryd.func33 rfl rfl (fun x hx => h x.1 x.2.1 hx))
def R73 : Prop := ∀ (a0 : Item) (a1 : Item), (decide (List.length a0.2.2.2 ≤ 1000)) = true → I73.run ⟨[.dat tItem a0, .dat tItem a1], []⟩ = some ⟨[.dat .bool (a0 == a1)], []⟩
theorem sd73 (hE : EnvOk Tryd.prog En33) (h : R73) : EnvOk Tryd.prog En73 := env_add hE (gen_sound I73 hE mo Tryd.func73 rfl rfl (fun x hx => h x.1 x.2.1 hx))
def R72 : Prop := ∀ (a0 : (List Item)) (a1 : (List Item)), (decide (List.length a0 ≤ 1000) && partsOk a0) = true → I72.run ⟨[.dat (.slice tItem) a0, .dat (.slice tItem) a1, .clos 73 []], []⟩ = some ⟨[.dat .bool (a0 == a1)], []⟩
theorem sd72 (hE : EnvOk Tryd.prog En73) (h : R72) : EnvOk Tryd.prog En72 := env_add hE (gen_sound I72 hE mo Tryd.func72 rfl rfl (fun x hx => h x.1 x.2.1 hx))
def R34 : Prop := ∀ (a0 : Prgm) (a1 : Prgm), (decide (List.length a0.1 ≤ 1000) && partsOk a0.1) = true → I34.run ⟨[.dat tPrgm a0, .dat tPrgm a1], []⟩ = some ⟨[.dat .bool (a0 == a1)], []⟩
theorem sd34 (hE : EnvOk Tryd.prog En72) (h : R34) : EnvOk Tryd.prog En34 := env_add hE (gen_sound I34 hE mo Tryd.func34 rfl rfl (fun x hx => h x.1 x.2.1 hx))
def R4 : Prop := ∀ (a0 : (List Int)), (true) = true → I4.run ⟨[.dat (.slice tI) a0], []⟩ = some ⟨[.dat .bool true], []⟩
theorem law (hE : EnvOk Tryd.prog En34) (h : R4) : Sound Tryd.prog En34.gl 4 S4 := And.left (b := Enters Tryd.prog 4) (gen_sound I4 hE mo Tryd.func4 rfl rfl (fun x hx => h x.1 hx))
end Go.Ev.M

set_option linter.unusedVariables false
set_option linter.unusedSimpArgs false
namespace Go.Ev.M
open Go Go.Ev Go.Proofs
/-! ### small things (rw [condT (dT (by first | omega | (simp only [List.length_append, List.length_cons, List.length_nil, List.length_set, List.length_take, List.length_drop, List.length_map]; omega) | (simp; omega)))], repeat (rw [condT (dT (by first | omega | (simp only [List.length_append, List.length_cons, List.length_nil, List.length_set, List.length_take, List.length_drop, List.length_map]; omega) | (simp; omega)))]), st: words that tmpl2.py writes out) -/
theorem c12 {α : Type} {a b : α} : cond ((12 : Int) == 0) a b = b := rfl
theorem range1 (i m : Nat) : List.range' i (m + 1) = i :: List.range' (i + 1) m := by rw [List.range'_succ]

theorem r83 : R83 := by
  intro a0 a1 _
  rw [f83_run]
  unfold below
  by_cases h1 : a1 < 1
  · simp [h1]
  · have h0 : (a1 == 0) = false := by simp; omega
    by_cases h2 : a0.tmod a1 < 0 <;> simp [h1, h0, h2]

theorem atOk_iff {k a : Int} : atOk k a = true ↔ 0 ≤ a ∧ a + k ≤ 1099511627776 := by simp [atOk]

theorem nextAt_eq {k a : Int} (h : atOk k a = true) (hk : 0 ≤ k) : nextAt a = a + 1 := by
  rw [atOk_iff] at h
  unfold nextAt
  exact wrap_in (by omega) (by omega)

theorem r41 : R41 := by
  intro a0 L at_ h
  rw [f41_run]
  have h1 := atOk_iff.1 h
  have e1 : wrap .i64 (at_ + 1) = at_ + 1 := wrap_in (by omega) (by omega)
  have e2 : wrap .i64 (at_ + 1 - 1) = at_ := by rw [wrap_in (by omega) (by omega)]; omega
  unfold next rawNext nextAt
  by_cases h0 : L = []
  · subst h0; simp
  · have hl : 0 < L.length := List.length_pos_iff.2 h0
    have hne : ((L.length : Int) == 0) = false := by simp; omega
    have ht0 : decide ((0 : Int) ≤ Int.tmod at_ L.length) = true := by simp; exact Int.tmod_nonneg _ h1.1
    have ht1 : decide (Int.tmod at_ L.length < L.length) = true := by simp; exact Int.tmod_lt_of_pos _ (by omega)
    simp only [hne, cond_false, e1, e2, ht0, ht1, cond_true]

theorem below_range {x n : Int} (h1 : 1 ≤ n) (h2 : n ≤ 4611686018427387904) : 0 ≤ below x n ∧ below x n < n := by
  unfold below
  have hlt : decide (n < 1) = false := by simp; omega
  have h3 := Int.tmod_lt_of_pos x (show 0 < n by omega)
  have h4 : -n < x.tmod n := Int.lt_tmod_of_pos x (by omega)
  rw [hlt, cond_false]
  by_cases h : x.tmod n < 0
  · rw [condT (by simpa using h), wrap_in (by omega) (by omega)]; omega
  · rw [condF (by simpa using h)]; omega

theorem next_range (L : List Int) (at_ : Int) {n : Int} (h1 : 1 ≤ n) (h2 : n ≤ 4611686018427387904) : 0 ≤ next L at_ n ∧ next L at_ n < n := below_range h1 h2

theorem r29 : R29 := by
  intro a0 L at_ h
  rw [f29_run, h]; rfl

theorem r35 : R35 := by
  intro a0 L at_ h
  simp only [Bool.and_eq_true, decide_eq_true_eq] at h
  obtain ⟨⟨h1, h2⟩, h3⟩ := h
  have hr := next_range L at_ (n := (a0.length : Int)) (by omega) (by omega)
  rw [f35_run, h1]
  have q1 : decide ((0 : Int) ≤ next L at_ a0.length) = true := by simpa using hr.1
  have q2 : decide (next L at_ a0.length < a0.length) = true := by simpa using hr.2
  rw [q1, q2]; rfl

theorem r31 : R31 := by
  intro a0 a1 L at_ h
  rw [f31_run, h]
  unfold rangeS rangeAt
  by_cases hc : a1 < a0 <;> simp [hc]

theorem r42 : R42 := by
  intro a0 a1 L at_ h
  have h1 := atOk_iff.1 h
  rw [f42_run]
  have q1 : atOk 1 at_ = true := atOk_iff.2 (by omega)
  have e1 := nextAt_eq q1 (by omega)
  have q2 : atOk 1 (nextAt at_) = true := atOk_iff.2 (by omega)
  rw [q1, q2]
  unfold oddS
  cases next L at_ 12 == 0 <;> rfl

theorem r52 : R52 := by
  intro a0 a1 a2 _
  rw [f52_run]
  unfold outside
  cases decide (a0 < a1) <;> rfl

theorem r46 : R46 := by
  intro a0 a1 a2 _
  rw [f46_run]
  unfold inR
  cases decide (a1 ≤ a0) <;> rfl

theorem atOk_t {k a : Int} (h1 : 0 ≤ a) (h2 : a + k ≤ 1099511627776) : atOk k a = true := atOk_iff.2 ⟨h1, h2⟩
theorem nextAt_s {a : Int} (h1 : 0 ≤ a) (h2 : a + 1 ≤ 1099511627776) : nextAt a = a + 1 := wrap_in (by omega) (by omega)
theorem rangeAt_s {a lo hi : Int} (h0 : lo ≤ hi) (h1 : 0 ≤ a) (h2 : a + 1 ≤ 1099511627776) : rangeAt a lo hi = a + 1 := by
  unfold rangeAt
  rw [condF (by simp; omega)]; exact nextAt_s h1 h2
theorem rangeS_in (L : List Int) (a : Int) {lo hi : Int} (h : lo ≤ hi) (h1 : -1000000000 ≤ lo) (h2 : hi ≤ 1000000000) : lo ≤ rangeS L a lo hi ∧ rangeS L a lo hi ≤ hi := by
  unfold rangeS
  rw [condF (by simp; omega), wrap_in (x := hi - lo) (by omega) (by omega), wrap_in (x := hi - lo + 1) (by omega) (by omega)]
  have := next_range L a (n := hi - lo + 1) (by omega) (by omega)
  rw [wrap_in (by omega) (by omega)]; omega
theorem oddAt (L : List Int) {a lo hi : Int} (h0 : lo ≤ hi) (h1 : 0 ≤ a) (h2 : a + 2 ≤ 1099511627776) : (oddS L a lo hi).1 = a + 2 := by
  unfold oddS
  cases next L a 12 == 0
  · simp only [cond_false]; rw [nextAt_s h1 (by omega), rangeAt_s h0 (by omega) (by omega)]; omega
  · simp only [cond_true]; rw [nextAt_s h1 (by omega), nextAt_s (by omega) (by omega)]; omega
theorem len_t {n m : Nat} (h : n ≤ m) : decide (n ≤ m) = true := dT h
theorem atOk_and {k a : Int} {p q : Bool} (h1 : 0 ≤ a) (h2 : a + k ≤ 1099511627776) (hp : p = true) (hq : q = true) : (atOk k a && p && q) = true := by
  rw [atOk_t h1 h2, hp, hq]; rfl
theorem bself (n : Int) : (n == n) = true := by simp

theorem r30 : R30 := by
  intro a0 L at_ h
  simp only [Bool.and_eq_true, decide_eq_true_eq] at h
  obtain ⟨⟨h1, h2⟩, h3⟩ := h
  have hr := next_range L at_ (n := (a0.length : Int)) (by omega) (by omega)
  rw [f30_run, h1]
  have q1 : decide ((0 : Int) ≤ next L at_ a0.length) = true := by simpa using hr.1
  have q2 : decide (next L at_ a0.length < a0.length) = true := by simpa using hr.2
  rw [q1, q2]; rfl

theorem r43 : R43 := by
  intro a0 h
  simp only [decide_eq_true_eq] at h
  rw [f43_run, condT (dT (by simp; omega))]
  cases a0 with
  | nil => simp [both_self]
  | cons x l => simp

theorem idxBy_any {α : Type} (p : α → Bool) : ∀ (l : List α) (i : Nat), decide (idxBy p l i ≥ 0) = l.any p
  | [], i => by simp [idxBy]
  | x :: l, i => by
    have ih := idxBy_any p l (i + 1)
    simp only [idxBy, List.any_cons]
    by_cases hx : p x = true
    · simp [hx]
    · have hx : p x = false := by simpa using hx
      simp only [hx, cond_false, Bool.false_or]; exact ih

theorem go88a (xs : List Item) (hb : xs.length ≤ 1000) (k pl : Bytes) (lg : Int) (ps : List Bytes) : ∀ (m i : Nat), i + m = xs.length →
    f88ah0 xs xs.length i k pl lg ps = some ⟨[.dat tI (idxBy (fun o => t51_0 o k pl lg ps) (xs.drop i) i)], [(0, .box [.dat .str k, .dat .str pl, .dat tI lg, .dat (.slice .str) ps])]⟩ := by
  intro m
  induction m with
  | zero => intro i hi; rw [f88ah0_eq, dlt_not (by omega), dnil (by omega)]; rfl
  | succ m ih =>
    intro i hi
    have hlt : i < xs.length := by omega
    rw [f88ah0_eq, dlt hlt, dle0, getN _ _ _ hlt, wsucc (by omega), ih (i + 1) (by omega), dcons hlt]
    simp only [cond_true, idxBy]
    cases t51_0 xs[i] k pl lg ps <;> rfl

theorem r88a : R88a := by
  intro a0 k pl lg ps h
  simp only [decide_eq_true_eq] at h
  rw [f88a_run]
  exact go88a a0 h k pl lg ps a0.length 0 (by omega)

theorem go88 (xs : List Item) (hb : xs.length ≤ 1000) (k : Bytes) : ∀ (m i : Nat), i + m = xs.length →
    f88h0 xs xs.length i k = some ⟨[.dat tI (idxBy (fun o => t90_0 o k) (xs.drop i) i)], [(0, .box [.dat .str k])]⟩ := by
  intro m
  induction m with
  | zero => intro i hi; rw [f88h0_eq, dlt_not (by omega), dnil (by omega)]; rfl
  | succ m ih =>
    intro i hi
    have hlt : i < xs.length := by omega
    rw [f88h0_eq, dlt hlt, dle0, getN _ _ _ hlt, wsucc (by omega), ih (i + 1) (by omega), dcons hlt]
    simp only [cond_true, idxBy]
    cases t90_0 xs[i] k <;> rfl

theorem r88 : R88 := by
  intro a0 k h
  simp only [decide_eq_true_eq] at h
  rw [f88_run]
  exact go88 a0 h k a0.length 0 (by omega)

theorem r49 : R49 := by
  intro a0 _
  rw [f49_run]
  show (cond (!(a0 == [])) (cond (decide ((a0.length : Int) ≤ 40)) (cond (decide ((0 : Int) ≤ 0)) (cond (decide ((0 : Int) < (a0.length : Int))) (cond (decide (indexB smallsB ((a0.getD 0 0).toNat : Int) ≥ 0)) (cond (trimOk a0 keyB) (some (α := Fr) ⟨[.dat .bool (trimB a0 keyB == [])], []⟩) none) (some (α := Fr) ⟨[.dat .bool false], []⟩)) none) none) (some (α := Fr) ⟨[.dat .bool false], []⟩)) (some (α := Fr) ⟨[.dat .bool false], []⟩)) = some (α := Fr) ⟨[.dat .bool (!(a0 == []) && decide ((a0.length : Int) ≤ 40) && decide (indexB smallsB ((a0.getD 0 0).toNat : Int) ≥ 0) && (trimB a0 keyB == []))], []⟩
  generalize hz : decide (indexB smallsB ((a0.getD 0 0).toNat : Int) ≥ 0) = z
  cases h1 : !(a0 == []) with
  | false => rfl
  | true =>
    cases h2 : decide ((a0.length : Int) ≤ 40) with
    | false => rfl
    | true =>
      have h1' : 0 < a0.length := by
        cases a0 with
        | nil => simp at h1
        | cons x l => simp
      have h2' : (a0.length : Int) ≤ 40 := by simpa using h2
      have q : trimOk a0 keyB = true := by
        unfold trimOk
        rw [dT (by omega), show decide (keyB.length ≤ 1000) = true from by decide, show (keyB.all fun b => decide (b.toNat < 128)) = true from by decide]; rfl
      have q0 : decide ((0 : Int) < (a0.length : Int)) = true := dT (by omega)
      simp only [cond_true, q0, Bool.true_and, q, show decide ((0 : Int) ≤ 0) = true from rfl]
      cases z <;> rfl

theorem go53 (xs : List Bytes) (hb : xs.length ≤ 1000) : ∀ (m i : Nat) (prev : Option Bytes), i + m = xs.length → (i = 0 ∧ prev = none ∨ ∃ h : 0 < i ∧ i - 1 < xs.length, prev = some (xs[i - 1]'h.2)) →
    f53h0 xs xs xs.length i = some ⟨[.dat tI (risingGo isKey prev (xs.drop i))], []⟩ := by
  intro m
  induction m with
  | zero => intro i prev hi hp; rw [f53h0_eq, dlt_not (by omega), dnil (by omega)]; rfl
  | succ m ih =>
    intro i prev hi hp
    have hlt : i < xs.length := by omega
    have ih' := ih (i + 1) (some xs[i]) (by omega) (.inr ⟨⟨by omega, by omega⟩, rfl⟩)
    rw [f53h0_eq, dlt hlt, dle0, getN _ _ _ hlt, wsucc (by omega), ih', dcons hlt]
    simp only [cond_true, risingGo]
    cases isKey xs[i] with
    | false => rfl
    | true =>
      simp only [Bool.not_true, cond_false]
      rcases hp with ⟨rfl, rfl⟩ | ⟨⟨h1, h2⟩, rfl⟩
      · rfl
      · have e : wrap .i64 ((i : Int) - 1) = ((i - 1 : Nat) : Int) := by rw [wrap_in (by omega) (by omega)]; omega
        rw [e, dle0, dlt h2, getN _ _ _ h2, condT (dT (by omega))]
        simp only [cond_true, notAfter]
        cases bLess xs[i] xs[i - 1] || xs[i] == xs[i - 1] <;> rfl

theorem r53 : R53 := by
  intro a0 _
  rw [f53_run]
  unfold partsF
  cases h1 : ((a0.length : Int) == 0) with
  | true => rfl
  | false =>
    cases h2 : decide ((a0.length : Int) > 12) with
    | true => rfl
    | false =>
      simp only [cond_false]
      have : ¬ (a0.length : Int) > 12 := by simpa using h2
      exact go53 a0 (by omega) a0.length 0 none (by omega) (.inl ⟨rfl, rfl⟩)

theorem go56 (xs : List Bytes) (hb : xs.length ≤ 1000) : ∀ (m i : Nat) (prev : Option Bytes), i + m = xs.length → (i = 0 ∧ prev = none ∨ ∃ h : 0 < i ∧ i - 1 < xs.length, prev = some (xs[i - 1]'h.2)) →
    f56h0 xs xs xs.length i = some ⟨[.dat tI (risingGo keyR prev (xs.drop i))], []⟩ := by
  intro m
  induction m with
  | zero => intro i prev hi hp; rw [f56h0_eq, dlt_not (by omega), dnil (by omega)]; rfl
  | succ m ih =>
    intro i prev hi hp
    have hlt : i < xs.length := by omega
    have ih' := ih (i + 1) (some xs[i]) (by omega) (.inr ⟨⟨by omega, by omega⟩, rfl⟩)
    rw [f56h0_eq, dlt hlt, dle0, getN _ _ _ hlt, wsucc (by omega), ih', dcons hlt]
    simp only [cond_true, risingGo]
    cases keyR xs[i] with
    | false => rfl
    | true =>
      simp only [Bool.not_true, cond_false]
      rcases hp with ⟨rfl, rfl⟩ | ⟨⟨h1, h2⟩, rfl⟩
      · rfl
      · have e : wrap .i64 ((i : Int) - 1) = ((i - 1 : Nat) : Int) := by rw [wrap_in (by omega) (by omega)]; omega
        rw [e, dle0, dlt h2, getN _ _ _ h2, condT (dT (by omega))]
        simp only [cond_true, notAfter]
        cases bLess xs[i] xs[i - 1] || xs[i] == xs[i - 1] <;> rfl

theorem r56 : R56 := by
  intro a0 h
  simp only [decide_eq_true_eq] at h
  rw [f56_run]
  exact go56 a0 h a0.length 0 none (by omega) (.inl ⟨rfl, rfl⟩)

theorem go89 (xs cs : Bytes) (hb : xs.length ≤ 1000000) : ∀ (m i : Nat), i + m = xs.length → f89h0 xs cs xs.length i = some ⟨[.dat .bool (onlyB (xs.drop i) cs)], []⟩ := by
  intro m
  induction m with
  | zero => intro i hi; rw [f89h0_eq, dlt_not (by omega), dnil (by omega)]; rfl
  | succ m ih =>
    intro i hi
    have hlt : i < xs.length := by omega
    rw [f89h0_eq, dlt hlt, dle0, getN _ _ _ hlt, wsucc (by omega), ih (i + 1) (by omega), dcons hlt]
    simp only [cond_true, onlyB, List.all_cons]
    cases decide (indexB cs ((xs[i].toNat : Nat) : Int) < 0) <;> rfl

theorem r89 : R89 := by
  intro a0 a1 h
  simp only [decide_eq_true_eq] at h
  rw [f89_run]
  exact go89 a0 a1 h a0.length 0 (by omega)

theorem r54 : R54 := by
  intro a0 _
  rw [f54_run]
  unfold keyR
  cases h1 : inR (a0.length : Int) 1 40 with
  | false => rfl
  | true =>
    have h2 : 1 ≤ a0.length ∧ a0.length ≤ 40 := by
      simp only [inR, Bool.and_eq_true, decide_eq_true_eq] at h1; omega
    have e : List.drop (Int.toNat 0) (List.take (Int.toNat 1) a0) = a0.take 1 := rfl
    rw [e, dT (p := (1 : Int) ≤ (a0.length : Int)) (by omega), dT (p := (a0.take 1).length ≤ 1000000) (by rw [List.length_take]; omega), dT (p := a0.length ≤ 1000000) (by omega)]
    simp only [cond_true, Bool.true_and, smallsB, keyB]
    cases onlyB (a0.take 1) _ <;> rfl

end Go.Ev.M

set_option linter.unusedVariables false
set_option linter.unusedSimpArgs false
namespace Go.Ev.M
open Go Go.Ev Go.Proofs
theorem ok55 (l : List Item) (k : Bytes) (h : l.length ≤ 1000) : t55_ok l k = true ∧ t55_0 l k = idxBy (fun o => t90_0 o k) l 0 := by
  unfold t55_ok t55_0 t55
  rw [dT h]; exact ⟨rfl, rfl⟩

theorem okC (l : List Item) (k pl : Bytes) (lg : Int) (ps : List Bytes) (h : l.length ≤ 1000) : t50_ok l k pl lg ps = true ∧
    t50_0 l k pl lg ps = (l.any fun o => o.1 == k) := by
  unfold t50_ok t50_0 t50
  rw [dT h]
  refine ⟨rfl, ?_⟩
  exact idxBy_any _ l 0

theorem go16 (xs : List Item) (hb : xs.length ≤ 60) : ∀ (m i : Nat), i + m = xs.length →
    f16h0 xs xs xs.length i = some ⟨[.dat tI (itemsGo isKey (xs.take i) (xs.drop i))], []⟩ := by
  intro m
  induction m with
  | zero => intro i hi; rw [f16h0_eq, dlt_not (by omega), dnil (xs := xs) (i := i) (by omega)]; rfl
  | succ m ih =>
    intro i hi
    have hlt : i < xs.length := by omega
    have ih' := ih (i + 1) (by omega)
    have hl : (xs.take i).length ≤ 1000 := by rw [List.length_take]; omega
    rw [List.take_succ_eq_append_getElem hlt] at ih'
    rw [f16h0_eq, dlt hlt, dle0, getN _ _ _ hlt, wsucc (by omega), ih', dcons hlt]
    have e : List.drop (Int.toNat 0) (List.take (Int.toNat (i : Int)) xs) = xs.take i := rfl
    obtain ⟨q1, q2⟩ := okC (xs.take i) xs[i].1 xs[i].2.1 xs[i].2.2.1 xs[i].2.2.2 hl
    rw [e, q1, q2, dT (p := (i : Int) ≤ (xs.length : Int)) (by omega), show decide ((0 : Int) ≤ 0) = true from rfl]
    simp only [cond_true, itemsGo]
    cases isKey xs[i].1 with
    | false => rfl
    | true =>
      cases isKey xs[i].2.1 with
      | false => rfl
      | true =>
        simp only [Bool.not_true, cond_false, Bool.or_false]
        cases (xs.take i).any fun o => o.1 == xs[i].1 with
        | true => rfl
        | false =>
          cases outside xs[i].2.2.1 1 86400000 with
          | true => rfl
          | false =>
            simp only [cond_false]
            cases partsF isKey xs[i].2.2.2 != 0 <;> rfl

theorem r16 : R16 := by
  intro a0 _
  rw [f16_run]
  unfold checkItems
  cases h2 : decide ((a0.length : Int) > 60) with
  | true => rfl
  | false =>
    have : ¬ (a0.length : Int) > 60 := by simpa using h2
    exact go16 a0 (by omega) a0.length 0 (by omega)

theorem outside_in (n lo hi : Int) : outside n lo hi = !inR n lo hi := by
  unfold outside inR
  have h1 : decide (n < lo) = !decide (lo ≤ n) := by
    by_cases h : lo ≤ n
    · have : ¬ n < lo := by omega
      simp [h, this]
    · have : n < lo := by omega
      simp [h, this]
  have h2 : decide (n > hi) = !decide (n ≤ hi) := by
    by_cases h : n ≤ hi
    · have : ¬ n > hi := by omega
      simp [h, this]
    · have : n > hi := by omega
      simp [h, this]
  rw [h1, h2, Bool.not_and]

theorem go17 (xs : List Item) (hb : xs.length ≤ 60) : ∀ (m i : Nat), i + m = xs.length →
    f17h0 xs xs xs.length i = some ⟨[.dat tI (itemsGo keyR (xs.take i) (xs.drop i))], []⟩ := by
  intro m
  induction m with
  | zero => intro i hi; rw [f17h0_eq, dlt_not (by omega), dnil (xs := xs) (i := i) (by omega)]; rfl
  | succ m ih =>
    intro i hi
    have hlt : i < xs.length := by omega
    have ih' := ih (i + 1) (by omega)
    have hl : (xs.take i).length ≤ 1000 := by rw [List.length_take]; omega
    rw [List.take_succ_eq_append_getElem hlt] at ih'
    rw [f17h0_eq, dlt hlt, dle0, getN _ _ _ hlt, wsucc (by omega), ih', dcons hlt]
    have e : List.drop (Int.toNat 0) (List.take (Int.toNat (i : Int)) xs) = xs.take i := rfl
    obtain ⟨q1, q2⟩ := ok55 (xs.take i) xs[i].1 hl
    have q3 : decide (idxBy (fun o => t90_0 o xs[i].1) (xs.take i) 0 ≥ 0) = ((xs.take i).any fun o => o.1 == xs[i].1) := idxBy_any _ _ 0
    rw [e, q1, q2, q3, dT (p := (i : Int) ≤ (xs.length : Int)) (by omega), show decide ((0 : Int) ≤ 0) = true from rfl]
    simp only [cond_true, itemsGo, outside_in, partsF]
    generalize (xs.take i).any (fun o => o.1 == xs[i].1) = z
    cases keyR xs[i].1 with
    | false => rfl
    | true =>
      cases keyR xs[i].2.1 with
      | false => rfl
      | true =>
        simp only [Bool.not_true, cond_false, Bool.or_false]
        cases z with
        | true => rfl
        | false =>
          cases inR xs[i].2.2.1 1 86400000 with
          | false => rfl
          | true =>
            simp only [cond_false, Bool.not_true]
            cases h1 : ((xs[i].2.2.2.length : Int) == 0) with
            | true => rfl
            | false =>
              cases h2 : decide ((xs[i].2.2.2.length : Int) > 12) with
              | true => rfl
              | false =>
                have : ¬ (xs[i].2.2.2.length : Int) > 12 := by simpa using h2
                rw [dT (p := xs[i].2.2.2.length ≤ 1000) (by omega)]
                simp only [cond_true, cond_false]
                cases risingGo keyR none xs[i].2.2.2 != 0 <;> rfl

theorem r17 : R17 := by
  intro a0 _
  rw [f17_run]
  unfold checkItems
  cases h2 : decide ((a0.length : Int) > 60) with
  | true => rfl
  | false =>
    have : ¬ (a0.length : Int) > 60 := by simpa using h2
    exact go17 a0 (by omega) a0.length 0 (by omega)

theorem r18 : R18 := by
  intro a0 _
  rw [f18_run]
  unfold checkProg
  cases checkItems isKey a0.1 != 0 with
  | true => rfl
  | false =>
    simp only [cond_false]
    have e : (if (-1 : Int) < (wrap .i64 ((a0.1.length : Int) - 2)) then (wrap .i64 ((a0.1.length : Int) - 2)) else (-1 : Int)) = mx (-1) (wrap .i64 ((a0.1.length : Int) - 2)) := rfl
    rw [e]
    cases outside a0.2.1 0 86400000 with
    | true => rfl
    | false =>
      cases outside a0.2.2.1 0 86400000 with
      | true => rfl
      | false =>
        cases outside a0.2.2.2.1 0 86400000 with
        | true => rfl
        | false => cases outside a0.2.2.2.2 (-1) (mx (-1) (wrap .i64 ((a0.1.length : Int) - 2))) <;> rfl

theorem r11 : R11 := by
  intro a0 _
  rw [f11_run]
  unfold checkProg
  cases checkItems keyR a0.1 != 0 with
  | true => rfl
  | false =>
    simp only [cond_false, outside_in]
    have e : (if (-1 : Int) < (wrap .i64 ((a0.1.length : Int) - 2)) then (wrap .i64 ((a0.1.length : Int) - 2)) else (-1 : Int)) = mx (-1) (wrap .i64 ((a0.1.length : Int) - 2)) := rfl
    rw [e]
    cases inR a0.2.1 0 86400000 with
    | false => rfl
    | true =>
      cases inR a0.2.2.1 0 86400000 with
      | false => rfl
      | true =>
        cases inR a0.2.2.2.1 0 86400000 with
        | false => rfl
        | true => cases inR a0.2.2.2.2 (-1) (mx (-1) (wrap .i64 ((a0.1.length : Int) - 2))) <;> rfl

theorem ix_iff {p : Prgm} {i : Int} : (decide (0 ≤ i) && decide (i + 1 < (List.length p.1 : Int)) && decide (List.length p.1 ≤ 1000)) = true ↔ 0 ≤ i ∧ i + 1 < (p.1.length : Int) ∧ p.1.length ≤ 1000 := by
  simp only [Bool.and_eq_true, decide_eq_true_eq, and_assoc]

theorem r85 : R85 := by
  intro a0 a1 h
  obtain ⟨h1, h2, h3⟩ := ix_iff.1 h
  rw [f85_run, wrap_in (x := a1 + 1) (by omega) (by omega), dT (p := (0 : Int) ≤ a1) h1, dT (p := a1 < (a0.1.length : Int)) (by omega), dT (p := (0 : Int) ≤ a1 + 1) (by omega), dT (p := a1 + 1 < (a0.1.length : Int)) h2]
  simp only [cond_true]
  unfold behindF gapAt t74_0 t74
  cases a1 == a0.2.2.2.2 <;> rfl

theorem r48 : R48 := by
  intro a0 a1 h
  obtain ⟨h1, h2, h3⟩ := ix_iff.1 h
  rw [f48_run, wrap_in (x := a1 + 1) (by omega) (by omega), dT (p := (0 : Int) ≤ a1) h1, dT (p := a1 < (a0.1.length : Int)) (by omega), dT (p := (0 : Int) ≤ a1 + 1) (by omega), dT (p := a1 + 1 < (a0.1.length : Int)) h2]
  simp only [cond_true]
  unfold behindF gapAt
  generalize (!(List.getD a0.1 (Int.toNat a1) (Tc.dflt tItem)).2.1 == (List.getD a0.1 (Int.toNat (a1 + 1)) (Tc.dflt tItem)).2.1) = z
  cases a1 == a0.2.2.2.2 <;> cases z <;> rfl

theorem behind_eq (p : Prgm) (i : Nat) (h : i + 1 < p.1.length) : behindF p i = gapAt p i p.1[i] p.1[i + 1] := by
  have h' : i < p.1.length := by omega
  unfold behindF
  have e : ((i : Int) + 1) = ((i + 1 : Nat) : Int) := by omega
  rw [e, getN _ _ _ h', getN _ _ _ h]

theorem go45 (p : Prgm) (hb : p.1.length ≤ 1000) : ∀ (m i : Nat) (a : Int) (out : List Int), i + m = p.1.length → out.length ≤ i →
    f45h0 a p.1 p.1.length i p.1 p.2.1 p.2.2.1 p.2.2.2.1 p.2.2.2.2 out = some ⟨[.slc 0, .dat tI (begGo p i a (p.1.drop i)).2], [(0, .arr tI (out ++ (begGo p i a (p.1.drop i)).1))]⟩ := by
  intro m
  induction m with
  | zero => intro i a out hi ho; rw [f45h0_eq, dlt_not (by omega), dnil (by omega)]; simp [begGo]
  | succ m ih =>
    intro i a out hi ho
    have hlt : i < p.1.length := by omega
    rw [f45h0_eq, dlt hlt, dle0, getN _ _ _ hlt, wsucc (by omega), dcons hlt, dT (p := (out.length + [a].length) * 8 ≤ 140737488355328) (by simp; omega)]
    simp only [cond_true]
    by_cases hn : i + 1 < p.1.length
    · rw [dlt hn, ih (i + 1) _ _ (by omega) (by simp; omega), dcons hn]
      have q : (true && decide ((i : Int) + 1 < (List.length p.1 : Int)) && decide (List.length p.1 ≤ 1000)) = true := by rw [dT (p := (i : Int) + 1 < (List.length p.1 : Int)) (by omega), dT hb]; rfl
      rw [cond_true, condT q]
      have e : (p.1, (p.2.1, (p.2.2.1, (p.2.2.2.1, p.2.2.2.2)))) = p := rfl
      rw [e, behind_eq p i hn]
      simp only [begGo, List.append_assoc, List.singleton_append]
      rfl
    · rw [dlt_not (i := i + 1) (n := p.1.length) (by omega), cond_false, ih (i + 1) _ _ (by omega) (by simp; omega), dnil (by omega)]
      simp [begGo]

theorem r45 : R45 := by
  intro a0 h
  simp only [decide_eq_true_eq] at h
  rw [f45_run]
  have := go45 a0 h a0.1.length 0 0 [] (by omega) (by simp)
  simpa using this

theorem go15 (p : Prgm) (hb : p.1.length ≤ 1000) : ∀ (m i : Nat) (a : Int) (out : List Timed), i + m = p.1.length → out.length ≤ i →
    f15h0 a p.1 p.1.length i p.1 p.2.1 p.2.2.1 p.2.2.2.1 p.2.2.2.2 out = some ⟨[.slc 0], [(0, .arr tTimed (out ++ timGo p i a (p.1.drop i)))]⟩ := by
  intro m
  induction m with
  | zero => intro i a out hi ho; rw [f15h0_eq, dlt_not (by omega), dnil (by omega)]; simp [timGo]
  | succ m ih =>
    intro i a out hi ho
    have hlt : i < p.1.length := by omega
    rw [f15h0_eq, dlt hlt, dle0, getN _ _ _ hlt, wsucc (by omega), dcons hlt, condT (dT (by simp; omega))]
    simp only [cond_true]
    by_cases hn : i + 1 < p.1.length
    · rw [dlt hn, ih (i + 1) _ _ (by omega) (by simp; omega), dcons hn]
      have q : (true && decide ((i : Int) + 1 < (List.length p.1 : Int)) && decide (List.length p.1 ≤ 1000)) = true := by rw [dT (p := (i : Int) + 1 < (List.length p.1 : Int)) (by omega), dT hb]; rfl
      rw [cond_true, condT q]
      have e : (p.1, (p.2.1, (p.2.2.1, (p.2.2.2.1, p.2.2.2.2)))) = p := rfl
      rw [e, behind_eq p i hn]
      simp only [timGo, List.append_assoc, List.singleton_append]
      rfl
    · rw [dlt_not (i := i + 1) (n := p.1.length) (by omega), cond_false, ih (i + 1) _ _ (by omega) (by simp; omega), dnil (by omega)]
      simp [timGo]

theorem r15 : R15 := by
  intro a0 a1 h
  simp only [decide_eq_true_eq] at h
  rw [f15_run]
  have := go15 a0 h a0.1.length 0 a1 [] (by omega) (by simp)
  simpa using this

end Go.Ev.M

set_option linter.unusedVariables false
set_option linter.unusedSimpArgs false
namespace Go.Ev.M
open Go Go.Ev Go.Proofs
theorem checkItems_len {key : Bytes → Bool} {l : List Item} (h : checkItems key l = 0) : l.length ≤ 60 := by
  unfold checkItems at h
  cases h2 : decide ((l.length : Int) > 60) with
  | true => rw [h2] at h; simp at h
  | false =>
    have : ¬ (l.length : Int) > 60 := by simpa using h2
    omega

theorem checkProg_items {key : Bytes → Bool} {p : Prgm} (h : checkProg key p = 0) : checkItems key p.1 = 0 := by
  unfold checkProg at h
  cases h2 : checkItems key p.1 != 0 with
  | true => rw [h2, cond_true] at h; exact h
  | false => simpa using h2

theorem eta_p (p : Prgm) : (p.1, (p.2.1, (p.2.2.1, (p.2.2.2.1, p.2.2.2.2)))) = p := rfl

theorem begGo_len (p : Prgm) : ∀ (l : List Item) (i a : Int), (begGo p i a l).1.length = l.length
  | [], _, _ => rfl
  | [x], _, _ => rfl
  | x :: y :: l, i, a => by
    have := begGo_len p (y :: l) (i + 1) (wrap .i64 (wrap .i64 (a + x.2.2.1) + gapAt p i x y))
    simp only [begGo, List.length_cons] at this ⊢
    omega

theorem timGo_len (p : Prgm) : ∀ (l : List Item) (i a : Int), (timGo p i a l).length = l.length
  | [], _, _ => rfl
  | [x], _, _ => rfl
  | x :: y :: l, i, a => by
    have := timGo_len p (y :: l) (i + 1) (wrap .i64 (wrap .i64 (a + x.2.2.1) + gapAt p i x y))
    simp only [timGo, List.length_cons] at this ⊢
    omega

theorem fromF_prog {p : Prgm} {f : Int} (h : fromF p f = 0) : checkProg isKey p = 0 := by
  unfold fromF at h
  cases h2 : checkProg isKey p != 0 with
  | true => rw [h2, cond_true] at h; exact h
  | false => simpa using h2

theorem r9 : R9 := by
  intro a0 _
  rw [f9_run, eta_p]
  unfold longP
  cases h : checkProg isKey a0 != 0 with
  | true => rfl
  | false =>
    have h0 : checkProg isKey a0 = 0 := by simpa using h
    have := checkItems_len (checkProg_items h0)
    rw [dT (p := a0.1.length ≤ 1000) (by omega)]
    rfl

theorem beq_comm' (x y : Bytes) : (x == y) = (y == x) := by
  by_cases h : x = y
  · subst h; rfl
  · have h' : ¬ y = x := fun e => h e.symm
    rw [beq_eq_false_iff_ne.2 h, beq_eq_false_iff_ne.2 h']

theorem r13 : R13 := by
  intro a0 h
  simp only [decide_eq_true_eq] at h
  rw [f13_run, eta_p]
  unfold longR
  have hl := timGo_len a0 a0.1 0 0
  rw [dT h, cond_true]
  have hq : (timGo a0 0 0 a0.1).length ≤ 1000 := by omega
  clear hl
  revert hq
  generalize timGo a0 0 0 a0.1 = t
  intro hq
  cases t with
  | nil => rfl
  | cons x l =>
    have h1 : ((List.length (x :: l) : Int) == 0) = false := by simp; omega
    have h0 : 1 ≤ List.length (x :: l) := by simp
    have e : wrap .i64 ((List.length (x :: l) : Int) - 1) = ((List.length (x :: l) - 1 : Nat) : Int) := by rw [wrap_in (by omega) (by omega)]; omega
    have hlt : List.length (x :: l) - 1 < List.length (x :: l) := by simp
    rw [h1, e, dle0, dlt hlt, getN _ _ _ hlt, dT (p := Int.toNat ((List.length (x :: l) - 1 : Nat) : Int) < List.length (x :: l)) (by simp), List.getLast?_eq_getElem?, List.getElem?_eq_getElem hlt]
    simp only [cond_true, cond_false]

theorem beq_timed (x y : Timed) : Tc.beq tTimed x y = (x == y) := rfl


end Go.Ev.M

set_option linter.unusedVariables false
namespace Go.Ev
open Go Go.RowKit

theorem pure_sound {P : Program} {G : (Nat → Prop) → Array Obj → Prop} {f : FuncId} {md : List Bool} {ts : List Tc} {ok : Tup ts → Bool} {pat : Fr} {out : Tup ts → FV}
    (hp : ∀ x, fillF pat (undats ts x) = ⟨undats ts x, []⟩) (hr : ∀ x, resFV [out x] = out x)
    (h : ∀ x, ok x = true → ∀ (w : World) (V : Vw) (vals : List Value), V.h = w.heap → G V.S w.heap → RelVs V (undats ts x) vals →
      Calls P f vals.toArray w fun e w' => ∃ u, e = .returned u ∧ RowKit.Below w.heap.size w w' ∧ ∀ V', RelV V' (out x) u) :
    Sound P G f (genS md false pat ts ok (fun x => ⟨[out x], []⟩)) := by
  refine gen_of (P := P) (G := G) (f := f) (fun pk o => ∀ (vals : List Value) (w : World) (loc : Nat → Loc) (S : Nat → Prop), Core pk.reg loc S w.heap → G S w.heap →
    RelVs (view pk.reg loc S w.heap) pk.slots vals →
    Calls P f vals.toArray w fun e w' => ∃ u, e = .returned u ∧ Sm w w' ∧ ∃ loc' S', Ctx (entOf pk loc S w.heap) o.reg loc' S' w'.heap ∧
      (view pk.reg loc S w.heap).le (view o.reg loc' S' w'.heap) ∧ RelV (view o.reg loc' S' w'.heap) (resFV o.slots) u) ?_
  intro x hx vals w loc S hc hg hv
  rw [hp] at hc hv ⊢
  refine (h x hx w (view (Fr.reg ⟨undats ts x, []⟩) loc S w.heap) vals rfl hg hv).mono ?_
  rintro e w' ⟨u, rfl, hb, hu⟩
  refine ⟨u, rfl, ⟨hb.os, hb.output⟩, loc, S, ⟨⟨fun _ => trivial, fun _ _ h => h.elim, fun _ h => h.elim, fun b hb' => Nat.lt_of_lt_of_le (hc.bS b hb') hb.size⟩,
    ⟨hb.size, fun b hb' _ => hb.block b hb', fun _ h => h, fun _ h => .inl h, fun _ h => h.elim, fun _ _ ⟨_, h, _⟩ => h.elim, hc.bS⟩⟩,
    ⟨fun _ _ h => h.elim, fun _ _ _ h => h.elim, fun _ _ _ _ h => h.elim, fun _ _ h => h.elim, fun b hb' => ⟨hb', hb.block b (hc.bS b hb')⟩⟩, ?_⟩
  rw [hr]; exact hu _

theorem enters_plain {P : Program} {f : FuncId} {fn : Func} (hf : P.funcs[f]? = some fn) {b : _} (hb : fn.body = some b) (hn : (fn.name == "runtime.NumGoroutine") = false) : Enters P f :=
  enters_of hf hb hn
end Go.Ev

/-
  DERIVED: THE SHELF's CONTRACTS AT THIS DUMP, IN PLAIN WORDS (tools/lay-plain.mjs out of 'GleeKs.lean', which tools/lay-shelf.mjs wrote): THE SAME DECLARATIONS UNDER THE SAME NAMES: 'import', 'namespace', 'open', 'def', 'theorem' AND NOTHING ELSE: no command of the shelf's: FOR A HAND-IN. Each laying: the table of numbers ('.._ren') and one theorem, a field a fact of the dump's own or the kernel's comparison; each contract: ONE APPLICATION.
-/
namespace Go.Proofs
open Go.Shelf
def Tryd.lays137_ren : Go.Shelf.Ren := ⟨fun | 137 => 86 | 217 => 100 | 266 => 116 | n => n, fun | 9 => 9 | 5 => 5 | 3 => 3 | n => n, fun | n => n⟩
theorem Tryd.lays137 : Go.Proofs.Lays.n137 Tryd.prog Tryd.lays137_ren := {
  mixed := by kernel_rfl
  f137 := Tryd.func86.trans (congrArg some (by kernel_rfl))
  f217 := Tryd.func100.trans (congrArg some (by kernel_rfl))
  f266 := Tryd.func116.trans (congrArg some (by kernel_rfl))
  t3 := Tryd.underlying3
  a3 := Tryd.isAgg3
  z3 := Tryd.sizeOf3
  v3 := Tryd.zeroValue3
  t5 := Tryd.underlying5
  a5 := Tryd.isAgg5
  z5 := Tryd.sizeOf5
  v5 := Tryd.zeroValue5
  t9 := Tryd.underlying9
  a9 := Tryd.isAgg9
  z9 := Tryd.sizeOf9
  v9 := Tryd.zeroValue9 }
def Tryd.lays160_ren : Go.Shelf.Ren := ⟨fun | 160 => 87 | 232 => 102 | 231 => 101 | 227 => 103 | 234 => 105 | 233 => 104 | 236 => 107 | 235 => 106 | 228 => 117 | 271 => 120 | 151 => 119 | 197 => 118 | 120 => 125 | 152 => 124 | 260 => 123 | 137 => 86 | 119 => 128 | 224 => 129 | 225 => 130 | 217 => 100 | 266 => 116 | n => n, fun | 9 => 9 | 4 => 4 | 3 => 3 | 5 => 5 | 117 => 125 | 116 => 124 | 0 => 0 | 124 => 128 | 21 => 21 | 105 => 135 | 46 => 138 | 119 => 140 | 139 => 143 | 138 => 142 | n => n, fun | 3 => 1 | 4 => 2 | n => n⟩
theorem Tryd.lays160 : Go.Proofs.Lays.n160 Tryd.prog Tryd.lays160_ren := {
  mixed := by kernel_rfl
  f119 := Tryd.func128.trans (congrArg some (by kernel_rfl))
  f120 := Tryd.func125.trans (congrArg some (by kernel_rfl))
  f137 := Tryd.func86.trans (congrArg some (by kernel_rfl))
  f151 := Tryd.func119.trans (congrArg some (by kernel_rfl))
  f152 := Tryd.func124.trans (congrArg some (by kernel_rfl))
  f160 := Tryd.func87.trans (congrArg some (by kernel_rfl))
  f197 := Tryd.func118.trans (congrArg some (by kernel_rfl))
  f217 := Tryd.func100.trans (congrArg some (by kernel_rfl))
  f224 := Tryd.func129.trans (congrArg some (by kernel_rfl))
  f225 := Tryd.func130.trans (congrArg some (by kernel_rfl))
  f227 := Tryd.func103.trans (congrArg some (by kernel_rfl))
  f228 := Tryd.func117.trans (congrArg some (by kernel_rfl))
  f231 := Tryd.func101.trans (congrArg some (by kernel_rfl))
  f232 := Tryd.func102.trans (congrArg some (by kernel_rfl))
  f233 := Tryd.func104.trans (congrArg some (by kernel_rfl))
  f234 := Tryd.func105.trans (congrArg some (by kernel_rfl))
  f235 := Tryd.func106.trans (congrArg some (by kernel_rfl))
  f236 := Tryd.func107.trans (congrArg some (by kernel_rfl))
  f260 := Tryd.func123.trans (congrArg some (by kernel_rfl))
  f266 := Tryd.func116.trans (congrArg some (by kernel_rfl))
  f271 := Tryd.func120.trans (congrArg some (by kernel_rfl))
  t0 := Tryd.underlying0
  a0 := Tryd.isAgg0
  z0 := Tryd.sizeOf0
  v0 := Tryd.zeroValue0
  t3 := Tryd.underlying3
  a3 := Tryd.isAgg3
  z3 := Tryd.sizeOf3
  v3 := Tryd.zeroValue3
  t4 := Tryd.underlying4
  a4 := Tryd.isAgg4
  z4 := Tryd.sizeOf4
  v4 := Tryd.zeroValue4
  t5 := Tryd.underlying5
  a5 := Tryd.isAgg5
  z5 := Tryd.sizeOf5
  v5 := Tryd.zeroValue5
  t9 := Tryd.underlying9
  a9 := Tryd.isAgg9
  z9 := Tryd.sizeOf9
  v9 := Tryd.zeroValue9
  t21 := Tryd.underlying21
  a21 := Tryd.isAgg21
  z21 := Tryd.sizeOf21
  v21 := Tryd.zeroValue21
  t46 := Tryd.underlying138
  a46 := Tryd.isAgg138
  z46 := Tryd.sizeOf138
  v46 := Tryd.zeroValue138
  t105 := Tryd.underlying135
  a105 := Tryd.isAgg135
  z105 := Tryd.sizeOf135
  v105 := Tryd.zeroValue135
  t116 := Tryd.underlying124
  a116 := Tryd.isAgg124
  z116 := Tryd.sizeOf124
  t117 := Tryd.underlying125
  a117 := Tryd.isAgg125
  z117 := Tryd.sizeOf125
  v117 := Tryd.zeroValue125
  t119 := Tryd.underlying140
  a119 := Tryd.isAgg140
  z119 := Tryd.sizeOf140
  t124 := Tryd.underlying128
  a124 := Tryd.isAgg128
  z124 := Tryd.sizeOf128
  v124 := Tryd.zeroValue128
  t138 := Tryd.underlying142
  a138 := Tryd.isAgg142
  z138 := Tryd.sizeOf142
  v138 := Tryd.zeroValue142
  t139 := Tryd.underlying143
  a139 := Tryd.isAgg143
  z139 := Tryd.sizeOf143
  v139 := Tryd.zeroValue143
  g3 := by kernel_rfl
  g4 := by kernel_rfl }
end Go.Proofs

set_option linter.unusedVariables false
set_option linter.unusedSimpArgs false
namespace Go.Ev.M
open Go Go.Ev Go.Proofs
theorem r86 : R86 := by
  refine ⟨pure_sound (P := Tryd.prog) (G := En0.gl) (ts := [.str, .int .u8]) (out := fun x => .dat tI (indexB x.1 x.2.1)) (fun _ => rfl) (fun _ => rfl) ?_, enters_of Tryd.func86 rfl rfl⟩
  rintro ⟨s, c, _⟩ _ w V vals hV _ ⟨u1, us, rfl, h1, u2, us', rfl, h2, rfl⟩
  cases h1
  cases h2
  refine (Any.strings_IndexByte Tryd.lays137 ⟨List.toArray s⟩ c w).mono ?_
  rintro e w' ⟨rfl, rfl⟩
  exact ⟨_, rfl, RowKit.Below.refl _ _, fun _ => rfl⟩

theorem r87 : R87 := by
  refine ⟨pure_sound (P := Tryd.prog) (G := En0.gl) (ts := [.str, .str]) (out := fun x => .dat .str (trimB x.1 x.2.1)) (fun _ => rfl) (fun _ => rfl) ?_, enters_of Tryd.func87 rfl rfl⟩
  rintro ⟨s, c, _⟩ hok w V vals hV _ ⟨u1, us, rfl, h1, u2, us', rfl, h2, rfl⟩
  cases h1
  cases h2
  have hok' : (decide (List.length s ≤ 1000000) && decide (List.length c ≤ 1000) && c.all fun b => decide (b.toNat < 128)) = true := hok
  simp only [Bool.and_eq_true, decide_eq_true_eq] at hok'
  obtain ⟨⟨h1, h2⟩, h3⟩ := hok'
  refine (Any.strings_Trim_laid Tryd.lays160 (by kernel_rfl) ⟨List.toArray s⟩ ⟨List.toArray c⟩ w (by show (List.toArray s).size ≤ _; simp; omega) (by show (List.toArray c).size < _; simp; omega) (ascii_of_all h3)).mono ?_
  rintro e w' ⟨rfl, hb⟩
  exact ⟨_, rfl, hb, fun _ => rfl⟩

theorem indexByte_mem (b : UInt8) : ∀ (l : Bytes), decide (Lib.indexByte l b < 0) = !l.contains b
  | [] => rfl
  | x :: l => by
    have ih := indexByte_mem b l
    have hg := Lib.indexByte_ge l b
    unfold Lib.indexByte
    by_cases h : x = b
    · subst h; simp
    · have h1 : (x == b) = false := beq_eq_false_iff_ne.2 h
      have h2 : (b == x) = false := beq_eq_false_iff_ne.2 (fun e => h e.symm)
      rw [h1]
      simp only [List.contains_cons, h2, Bool.false_or, Bool.false_eq_true, if_false]
      rw [← ih]
      by_cases h3 : Lib.indexByte l b = -1
      · rw [h3]; rfl
      · have h4 : (Lib.indexByte l b == -1) = false := beq_eq_false_iff_ne.2 h3
        rw [h4]
        simp only [Bool.false_eq_true, if_false]
        rw [dF (by omega), dF (by omega)]

theorem toU (b : UInt8) : (Int.toNat ((b.toNat : Nat) : Int)).toUInt8 = b := by
  show (b.toNat).toUInt8 = b
  exact UInt8.ofNat_toNat

theorem only_all (s cs : Bytes) : onlyB s cs = s.all fun b => cs.contains b := by
  unfold onlyB
  congr 1
  funext b
  unfold indexB
  rw [toU, indexByte_mem, Bool.not_not]

theorem dw_nil {α : Type} (p : α → Bool) : ∀ (l : List α), l.dropWhile p = [] ↔ ∀ x ∈ l, p x = true
  | [] => by simp
  | x :: l => by
    rw [List.dropWhile_cons]
    cases h : p x with
    | true => simp [h, dw_nil p l]
    | false => simp [h]

theorem trim_nil (s cs : Bytes) : (trimB s cs == []) = s.all fun b => cs.contains b := by
  unfold trimB Lib.trimS Lib.trimLeftS Lib.trimRightS
  rw [Bool.eq_iff_iff, beq_iff_eq, dw_nil, List.all_eq_true]
  constructor
  · intro h
    -- a byte beyond the set would stay
    have h' : ∀ x ∈ s.reverse.dropWhile (fun b => cs.contains b), cs.contains x = true := fun x hx => h x (by simpa using hx)
    have h2 : s.reverse.dropWhile (fun b => cs.contains b) = [] := by
      cases hd : s.reverse.dropWhile (fun b => cs.contains b) with
      | nil => rfl
      | cons x l =>
        have := List.head?_dropWhile_not (fun b => cs.contains b) s.reverse
        rw [hd] at this h'
        simp only [List.head?_cons] at this
        have h3 := h' x (List.mem_cons_self ..)
        simp only [h3] at this
        simp at this
    rw [dw_nil] at h2
    exact fun x hx => h2 x (by simpa using hx)
  · intro h x hx
    have := (List.dropWhile_sublist (fun b => cs.contains b) (l := s.reverse)).subset (by simpa using hx)
    exact h x (by simpa using this)

theorem isKey_eq (s : Bytes) : isKey s = keyR s := by
  unfold isKey keyR
  rw [trim_nil, only_all, only_all]
  cases s with
  | nil => rfl
  | cons x l =>
    have e1 : (!((x :: l : Bytes) == [])) = true := rfl
    have e2 : inR ((x :: l : Bytes).length : Int) 1 40 = decide (((x :: l : Bytes).length : Int) ≤ 40) := by
      unfold inR
      rw [dT (p := (1 : Int) ≤ ((x :: l : Bytes).length : Int)) (by simp; omega), Bool.true_and]
    have e3 : ((x :: l : Bytes).getD 0 0) = x := rfl
    have e4 : (x :: l : Bytes).take 1 = [x] := rfl
    have e5 : decide (indexB smallsB ((x.toNat : Nat) : Int) ≥ 0) = smallsB.contains x := by
      unfold indexB
      rw [toU]
      have := indexByte_mem x smallsB
      by_cases h : Lib.indexByte smallsB x < 0
      · rw [dT h] at this
        rw [dF (by omega)]
        cases hc : smallsB.contains x <;> rw [hc] at this <;> first | rfl | cases this
      · rw [dF h] at this
        rw [dT (by omega)]
        cases hc : smallsB.contains x <;> rw [hc] at this <;> first | rfl | cases this
    rw [e1, e2, e3, e4, e5, Bool.true_and]
    simp only [List.all_cons, List.all_nil, Bool.and_true]

theorem isKey_fun : isKey = keyR := funext isKey_eq

theorem r20 : R20 := by
  intro _
  rw [f20_run]
  unfold longP
  rw [isKey_fun]
  rfl

end Go.Ev.M

set_option linter.unusedVariables false
set_option linter.unusedSimpArgs false
namespace Go.Ev.M
open Go Go.Ev Go.Proofs
def QRp (L : List Int) (a b : Int) (f : Fr) : Prop := ∃ (a' : Int) (items : List Item) (p q r s : Int),
  f = ⟨[.agg [.slc 2, .dat tI p, .dat tI q, .dat tI r, .dat tI s]], [(0, .box [.dat (.slice tI) L, .dat tI a']), (2, .arr tItem items)]⟩ ∧ a ≤ a' ∧ a' ≤ b ∧ items.length ≤ 5 ∧ ∀ x ∈ items, x.2.2.2.length ≤ 5

theorem rp2 (x0 : List Bytes) (x1 x2 : Int) (L : List Int) (z1 z2 z3 z4 p q r s : Int) (n g : Bytes) (lg : Int) (nl : List Bytes) (hn : nl.length ≤ 3) (items : List Item) (hi : items.length ≤ 4) : ∀ (m k : Nat) (a : Int) (parts : List Bytes),
    k + m = nl.length → 0 ≤ a → a + m ≤ 1099511627776 → parts.length ≤ k →
    ∃ (a' : Int) (it : Item), f40h2 x0 x1 x2 nl.length k L a z1 z2 z3 z4 p q r s n g lg nl items parts = f40h0 x0 x1 (wrap .i64 (x2 + 1)) L a' z1 z2 z3 z4 p q r s (items ++ [it]) ∧
      a ≤ a' ∧ a' ≤ a + m ∧ it.2.2.2.length ≤ 5 := by
  intro m
  induction m with
  | zero =>
    intro k a parts hk h0 ha hp
    rw [f40h2_eq, dlt_not (i := k) (n := nl.length) (by omega), cond_false]
    cases hz : ((parts.length : Int) == 0) with
    | true =>
      refine ⟨a, (n, (g, (lg, [[97, 108, 116, 111]]))), ?_, by omega, by omega, by simp⟩
      rw [cond_true]
      exact condT (dT (by simp; omega))
    | false =>
      refine ⟨a, (n, (g, (lg, parts))), ?_, by omega, by omega, by show parts.length ≤ 5; omega⟩
      rw [cond_false]
      exact condT (dT (by simp; omega))
  | succ m ih =>
    intro k a parts hk h0 ha hp
    have hlt : k < nl.length := by omega
    rw [f40h2_eq, dlt hlt, dle0, getN _ _ _ hlt, wsucc (by omega), dT (p := Int.toNat (k : Int) < nl.length) (by simpa using hlt), atOk_t h0 (by omega), nextAt_s h0 (by omega)]
    simp only [cond_true]
    cases next L a 2 == 0 with
    | true =>
      obtain ⟨a', it, e, h1, h2, h3⟩ := ih (k + 1) (a + 1) (parts ++ [nl[k]]) (by omega) (by omega) (by omega) (by simp; omega)
      refine ⟨a', it, ?_, by omega, by omega, h3⟩
      rw [cond_true, condT (dT (by simp; omega))]; exact e
    | false =>
      obtain ⟨a', it, e, h1, h2, h3⟩ := ih (k + 1) (a + 1) parts (by omega) (by omega) (by omega) (by omega)
      exact ⟨a', it, e, by omega, by omega, h3⟩

theorem QRp_mono {L : List Int} {a b c d : Int} (h1 : c ≤ a) (h2 : b ≤ d) {o : Option Fr} (h : Ends (QRp L a b) o) : Ends (QRp L c d) o := by
  refine ends_mono h ?_
  rintro f ⟨a', it, p, q, r, s, e, h3, h4, h5⟩
  exact ⟨a', it, p, q, r, s, e, by omega, by omega, h5⟩

theorem rp0 (xs : List Bytes) (hx : xs.length ≤ 5) (L : List Int) (z1 z2 z3 z4 p q r s : Int) : ∀ (m i : Nat) (a : Int) (items : List Item),
    i + m = xs.length → 0 ≤ a → a + 10 * m + 10 ≤ 1099511627776 → items.length ≤ i → (∀ x ∈ items, x.2.2.2.length ≤ 5) →
    Ends (QRp L a (a + 10 * m + 10)) (f40h0 xs xs.length i L a z1 z2 z3 z4 p q r s items) := by
  intro m
  induction m with
  | zero =>
    intro i a items hi h0 ha hl hp
    rw [f40h0_eq, dlt_not (i := i) (n := xs.length) (by omega), cond_false]
    have leaf : ∀ (a' s' : Int), a ≤ a' → a' ≤ a + 10 → Ends (QRp L a (a + 10 * (0 : Nat) + 10)) (some ⟨[.agg [.slc 2, .dat tI p, .dat tI q, .dat tI r, .dat tI s']], [(0, .box [.dat (.slice tI) L, .dat tI a']), (2, .arr tItem items)]⟩) :=
      fun a' s' h1 h2 => ends_some ⟨a', items, p, q, r, s', rfl, h1, by omega, by omega, hp⟩
    refine ends_cond (fun _ => ?_) (fun _ => leaf a s (by omega) (by omega))
    rw [atOk_t h0 (by omega), nextAt_s h0 (by omega), atOk_t (k := 1) (a := a + 1) (by omega) (by omega), nextAt_s (a := a + 1) (by omega) (by omega)]
    simp only [cond_true]
    exact ends_cond (fun _ => leaf _ _ (by omega) (by omega)) (fun _ => leaf _ _ (by omega) (by omega))
  | succ m ih =>
    intro i a items hi h0 ha hl hp
    have hlt : i < xs.length := by omega
    rw [f40h0_eq, dlt hlt, dle0, getN _ _ _ hlt, wsucc (by omega), atOk_t h0 (by omega), nextAt_s h0 (by omega), atOk_t (k := 1) (a := a + 1) (by omega) (by omega), nextAt_s (a := a + 1) (by omega) (by omega),
      atOk_t (k := 1) (a := a + 1 + 1) (by omega) (by omega), nextAt_s (a := a + 1 + 1) (by omega) (by omega)]
    simp only [cond_true]
    refine ends_cond (fun _ => ?_) (fun _ => ?_)
    · exact QRp_mono (by omega) (by omega) (ih (i + 1) (a + 1) items (by omega) (by omega) (by omega) (by omega) hp)
    · refine ends_if rfl (ends_if rfl ?_)
      obtain ⟨a', it, e, h1, h2, h3⟩ := rp2 xs xs.length i L z1 z2 z3 z4 p q r s xs[i] (some_ L (a + 1) [[114, 111, 119, 115], [114, 111, 119, 115], [99, 105, 114, 99, 108, 101]]) (pick L (a + 1 + 1) [(50 : Int), (100 : Int), (100 : Int), (200 : Int)])
        [[97, 108, 116, 111], [98, 97, 115, 115], [115, 111, 108, 105]] (by simp) items (by omega) 3 0 (a + 1 + 1 + 1) [] (by simp) (by omega) (by omega) (by simp)
      rw [wsucc (by omega)] at e
      have e' : f40h2 xs xs.length i ((List.length ([[97, 108, 116, 111], [98, 97, 115, 115], [115, 111, 108, 105]] : List Bytes) : Nat) : Int) (0 : Int) L (a + 1 + 1 + 1) z1 z2 z3 z4 p q r s xs[i] (some_ L (a + 1) [[114, 111, 119, 115], [114, 111, 119, 115], [99, 105, 114, 99, 108, 101]]) (pick L (a + 1 + 1) [(50 : Int), (100 : Int), (100 : Int), (200 : Int)])
        [[97, 108, 116, 111], [98, 97, 115, 115], [115, 111, 108, 105]] items [] = _ := e
      rw [e']
      refine QRp_mono (by omega) (by omega) (ih (i + 1) a' (items ++ [it]) (by omega) (by omega) (by omega) (by simp; omega) ?_)
      intro x hx
      rcases List.mem_append.1 hx with h | h
      · exact hp x h
      · rw [List.mem_singleton.1 h]; exact h3

theorem rp_ends (L : List Int) (at_ n : Int) (h : (atOk 1000 at_ && decide (0 ≤ n) && decide (n ≤ 5)) = true) :
    Ends (QRp L at_ (at_ + 100)) (I40.run ⟨[.ptr 0 0, .dat tI n], [(0, .box [.dat (.slice tI) L, .dat tI at_])]⟩) := by
  simp only [Bool.and_eq_true, decide_eq_true_eq] at h
  obtain ⟨⟨h1, h2⟩, h3⟩ := h
  have h1 := atOk_iff.1 h1
  rw [f40_run, atOk_t h1.1 (by omega), nextAt_s h1.1 (by omega), atOk_t (k := 1) (a := at_ + 1) (by omega) (by omega), nextAt_s (a := at_ + 1) (by omega) (by omega),
      atOk_t (k := 1) (a := at_ + 1 + 1) (by omega) (by omega), nextAt_s (a := at_ + 1 + 1) (by omega) (by omega)]
  refine ends_if rfl (ends_if rfl (ends_if rfl (ends_if rfl (ends_if (dT h2) (ends_if (dT h3) ?_)))))
  generalize hx : List.drop (Int.toNat 0) (List.take (Int.toNat n) ([[99], [97], [100], [98], [101]] : List Bytes)) = xs
  have hl : xs.length ≤ 5 := by
    rw [← hx, List.length_drop, List.length_take]
    show min _ 5 - _ ≤ 5
    omega
  exact QRp_mono (by omega) (by omega) (rp0 xs hl L 0 0 0 0 _ _ _ _ xs.length 0 (at_ + 1 + 1 + 1) [] (by omega) (by omega) (by omega) (by simp) (by simp))

theorem rightP_spec (L : List Int) (at_ n : Int) (h : (atOk 1000 at_ && decide (0 ≤ n) && decide (n ≤ 5)) = true) :
    (at_ ≤ (rightP L at_ n).1 ∧ (rightP L at_ n).1 ≤ at_ + 200 ∧ (rightP L at_ n).2.1.length ≤ 5 ∧ ∀ x ∈ (rightP L at_ n).2.1, x.2.2.2.length ≤ 5) ∧
    I40.run ⟨[.ptr 0 0, .dat tI n], [(0, .box [.dat (.slice tI) L, .dat tI at_])]⟩ = some ⟨[.agg [.slc 2, .dat tI (rightP L at_ n).2.2.1, .dat tI (rightP L at_ n).2.2.2.1, .dat tI (rightP L at_ n).2.2.2.2.1, .dat tI (rightP L at_ n).2.2.2.2.2]],
      [(0, .box [.dat (.slice tI) L, .dat tI (rightP L at_ n).1]), (2, .arr tItem (rightP L at_ n).2.1)]⟩ := by
  obtain ⟨f, hf, a', items, p, q, r, s, rfl, h1, h2, h3, h4⟩ := rp_ends L at_ n h
  refine Classical.epsilon_spec (p := fun p : Int × List Item × Int × Int × Int × Int => (at_ ≤ p.1 ∧ p.1 ≤ at_ + 200 ∧ p.2.1.length ≤ 5 ∧ ∀ x ∈ p.2.1, x.2.2.2.length ≤ 5) ∧
    I40.run ⟨[.ptr 0 0, .dat tI n], [(0, .box [.dat (.slice tI) L, .dat tI at_])]⟩ = some ⟨[.agg [.slc 2, .dat tI p.2.2.1, .dat tI p.2.2.2.1, .dat tI p.2.2.2.2.1, .dat tI p.2.2.2.2.2]], [(0, .box [.dat (.slice tI) L, .dat tI p.1]), (2, .arr tItem p.2.1)]⟩)
    ⟨(a', items, p, q, r, s), ⟨h1, by show a' ≤ _; omega, h3, h4⟩, hf⟩

theorem r40 : R40 := fun a0 L at_ h => (rightP_spec L at_ a0 h).2

end Go.Ev.M

set_option linter.unusedVariables false
set_option linter.unusedSimpArgs false
namespace Go.Ev.M
open Go Go.Ev Go.Proofs
def QAp (L : List Int) (a b : Int) (f : Fr) : Prop := ∃ (a' : Int) (p : Prgm),
  f = ⟨[.dat tPrgm p], [(0, .box [.dat (.slice tI) L, .dat tI a'])]⟩ ∧ a ≤ a' ∧ a' ≤ b ∧ p.1.length ≤ 5

theorem ap_ends (L : List Int) (at_ n : Int) (h : (atOk 2000 at_ && n == 5) = true) :
    Ends (QAp L at_ (at_ + 400)) (I6.run ⟨[.ptr 0 0, .dat tI n], [(0, .box [.dat (.slice tI) L, .dat tI at_])]⟩) := by
  simp only [Bool.and_eq_true] at h
  have h1 := atOk_iff.1 h.1
  have hn : n = 5 := by simpa using h.2
  subst hn
  have hk : (atOk 1000 at_ && decide ((0 : Int) ≤ 5) && decide ((5 : Int) ≤ 5)) = true := by rw [atOk_t h1.1 (by omega)]; rfl
  obtain ⟨⟨s1, s2, s3, s4⟩, _⟩ := rightP_spec L at_ 5 hk
  rw [f6_run]
  refine ends_if hk ?_
  generalize rightP L at_ 5 = P at *
  obtain ⟨a, its, p, q, r, s⟩ := P
  simp only at s1 s2 s3 s4 ⊢
  simp (disch := omega) only [nextAt_s, oddAt]
  have leaf : ∀ (a' : Int) (p : Prgm), at_ ≤ a' → a' ≤ at_ + 400 → p.1.length ≤ 5 → Ends (QAp L at_ (at_ + 400)) (some ⟨[.dat tPrgm p], [(0, .box [.dat (.slice tI) L, .dat tI a'])]⟩) :=
    fun a' p h1 h2 h3 => ends_some ⟨a', p, rfl, h1, h2, h3⟩
  refine ends_if (atOk_t (by omega) (by omega)) (ends_cond (fun _ => ?_) (fun _ => ?_))
  · refine ends_if (atOk_t (by omega) (by omega)) (ends_cond (fun _ => ?_) (fun _ => ends_cond (fun _ => ?_) (fun _ => ends_cond (fun hl => ?_) (fun _ => ?_))))
    · exact ends_if (atOk_t (by omega) (by omega)) (leaf _ _ (by omega) (by omega) s3)
    · exact ends_if (atOk_t (by omega) (by omega)) (ends_if (atOk_t (by omega) (by omega)) (ends_if (atOk_t (by omega) (by omega)) (leaf _ _ (by omega) (by omega) s3)))
    · have hl' : 0 < its.length := by simpa using hl
      obtain ⟨k1, k2⟩ := next_range L (a + 1 + 1) (n := (its.length : Int)) (by omega) (by omega)
      generalize hk : next L (a + 1 + 1) its.length = k at *
      have k3 : Int.toNat k < its.length := by omega
      have k4 : (List.getD its (Int.toNat k) (Tc.dflt tItem)).2.2.2.length ≤ 5 := by
        rw [getI _ _ _ k1 k3]; exact s4 _ (List.getElem_mem ..)
      repeat' first
        | exact leaf _ _ (by omega) (by omega) (by simp only [List.length_set]; exact s3)
        | refine ends_if (atOk_t (by omega) (by omega)) ?_
        | refine ends_if (dT k1) ?_
        | refine ends_if (dT k2) ?_
        | refine ends_if (dT (by simp only [List.length_set]; exact k3)) ?_
        | refine ends_if (dT (by omega)) ?_
        | refine ends_if (atOk_and (by omega) (by omega) rfl rfl) ?_
        | refine ends_if (dT (by simp only [List.length_cons, List.length_nil]; omega)) ?_
    · first
        | exact leaf _ _ (by omega) (by omega) s3
        | exact ends_if (atOk_t (by omega) (by omega)) (leaf _ _ (by omega) (by omega) s3)
  · first
      | exact leaf _ _ (by omega) (by omega) s3
      | exact ends_if (atOk_t (by omega) (by omega)) (leaf _ _ (by omega) (by omega) s3)

theorem aProg_spec (L : List Int) (at_ n : Int) (h : (atOk 2000 at_ && n == 5) = true) :
    (at_ ≤ (aProg L at_ n).1 ∧ (aProg L at_ n).1 ≤ at_ + 400 ∧ (aProg L at_ n).2.1.length ≤ 5) ∧
    I6.run ⟨[.ptr 0 0, .dat tI n], [(0, .box [.dat (.slice tI) L, .dat tI at_])]⟩ = some ⟨[.dat tPrgm (aProg L at_ n).2], [(0, .box [.dat (.slice tI) L, .dat tI (aProg L at_ n).1])]⟩ := by
  obtain ⟨f, hf, a', p, rfl, h1, h2, h3⟩ := ap_ends L at_ n h
  exact Classical.epsilon_spec (p := fun p : Int × Prgm => (at_ ≤ p.1 ∧ p.1 ≤ at_ + 400 ∧ p.2.1.length ≤ 5) ∧
    I6.run ⟨[.ptr 0 0, .dat tI n], [(0, .box [.dat (.slice tI) L, .dat tI at_])]⟩ = some ⟨[.dat tPrgm p.2], [(0, .box [.dat (.slice tI) L, .dat tI p.1])]⟩)
    ⟨(a', p), ⟨h1, h2, h3⟩, hf⟩

theorem r6 : R6 := fun a0 L at_ h => (aProg_spec L at_ a0 h).2

end Go.Ev.M

set_option linter.unusedVariables false
set_option linter.unusedSimpArgs false
namespace Go.Ev.M
open Go Go.Ev Go.Proofs
theorem outside_false {n lo hi : Int} (h : outside n lo hi = false) : lo ≤ n ∧ n ≤ hi := by
  unfold outside at h
  simp at h
  omega
theorem go23 (xs : List Int) (hb : xs.length ≤ 1000) : ∀ (m i : Nat), i + m = xs.length →
    f23h0 xs xs.length i = some ⟨[.dat tI (firstE (xs.drop i))], []⟩ := by
  intro m
  induction m with
  | zero => intro i hi; rw [f23h0_eq, condF (dlt_not (by omega)), dnil (xs := xs) (i := i) (by omega)]; rfl
  | succ m ih =>
    intro i hi
    have hlt : i < xs.length := by omega
    rw [f23h0_eq]
    rw [condT (dT (by first | omega | (simp only [List.length_append, List.length_cons, List.length_nil, List.length_set, List.length_take, List.length_drop, List.length_map]; omega) | (simp; omega)))]
    rw [condT (dT (by first | omega | (simp only [List.length_append, List.length_cons, List.length_nil, List.length_set, List.length_take, List.length_drop, List.length_map]; omega) | (simp; omega)))]
    rw [condT (dT (by first | omega | (simp only [List.length_append, List.length_cons, List.length_nil, List.length_set, List.length_take, List.length_drop, List.length_map]; omega) | (simp; omega)))]
    rw [getN _ _ _ hlt, wsucc (by omega), ih (i + 1) (by omega), dcons hlt, firstE]
    show cond (!(xs[i] == 0)) _ _ = _
    cases xs[i] == 0 <;> rfl
theorem r23 : R23 := by
  intro a0 h
  simp only [decide_eq_true_eq] at h
  rw [f23_run]
  exact go23 a0 h a0.length 0 (by omega)

theorem go27 (a b : List Bytes) (hl : a.length = b.length) (hb : a.length ≤ 1000) : ∀ (m i : Nat), i + m = a.length → f27h0 a b a.length i = some ⟨[.dat .bool (a.drop i == b.drop i)], []⟩ := by
  intro m
  induction m with
  | zero => intro i hi; rw [f27h0_eq, dlt_not (by omega), dnil (xs := a) (by omega), dnil (xs := b) (by omega)]; rfl
  | succ m ih =>
    intro i hi
    have hlt : i < a.length := by omega
    have hlt' : i < b.length := by omega
    rw [f27h0_eq, dlt hlt, dlt hlt', dle0, getN _ _ _ hlt, getN _ _ _ hlt', wsucc (by omega), ih (i + 1) (by omega), dcons hlt, dcons hlt', List.cons_beq_cons]
    simp only [cond_true]
    cases a[i] == b[i] <;> rfl
theorem r27 : R27 := by
  intro a0 a1 h
  simp only [decide_eq_true_eq] at h
  rw [f27_run]
  cases hn : ((a0.length : Int) != (a1.length : Int)) with
  | true =>
    have : a0 ≠ a1 := by
      intro e; subst e; simp at hn
    have : (a0 == a1) = false := by simpa using this
    rw [this]; rfl
  | false =>
    have hl : a0.length = a1.length := by simp at hn; omega
    exact go27 a0 a1 hl h a0.length 0 (by omega)
theorem r57 : R57 := by
  intro a0 h
  simp only [decide_eq_true_eq] at h
  rw [f57_run, condT (dT (by simp; omega))]
  cases a0 with
  | nil => simp [both_self]
  | cons x l => simp

theorem go67 (xs : List Item) (hb : xs.length ≤ 1000) : ∀ (m i : Nat) (out : List Bytes), i + m = xs.length → out.length ≤ i →
    f67h0 xs xs.length i out = some ⟨[.dat (.slice .str) (out ++ (xs.drop i).map fun o => o.1)], []⟩ := by
  intro m
  induction m with
  | zero => intro i out hi ho; rw [f67h0_eq, condF (dlt_not (by omega)), dnil (xs := xs) (i := i) (by omega)]; simp
  | succ m ih =>
    intro i out hi ho
    have hlt : i < xs.length := by omega
    rw [f67h0_eq]
    rw [condT (dT (by first | omega | (simp only [List.length_append, List.length_cons, List.length_nil, List.length_set, List.length_take, List.length_drop, List.length_map]; omega) | (simp; omega)))]
    rw [condT (dT (by first | omega | (simp only [List.length_append, List.length_cons, List.length_nil, List.length_set, List.length_take, List.length_drop, List.length_map]; omega) | (simp; omega)))]
    rw [condT (dT (by first | omega | (simp only [List.length_append, List.length_cons, List.length_nil, List.length_set, List.length_take, List.length_drop, List.length_map]; omega) | (simp; omega)))]
    rw [getN _ _ _ hlt, condT (dT (by simp; omega)), wsucc (by omega), ih (i + 1) _ (by omega) (by simp; omega), dcons hlt, List.map_cons, List.append_assoc]; rfl
theorem r67 : R67 := by
  intro a0 h
  simp only [decide_eq_true_eq] at h
  rw [f67_run]
  exact go67 a0 h a0.length 0 [] (by omega) (by simp)

theorem cmpI_eq (x y : Int) : t92_0 x y = cmpI x y := by
  unfold t92_0 t92
  simp [t109_0, t109, cmpI]
theorem go64 (a b : List Int) (ha : a.length ≤ 1000) : ∀ (m i : Nat), i + m = a.length → i ≤ b.length →
    f64h0 a b a a.length i = some ⟨[.dat tI (cmpGo (a.drop i) (b.drop i))], []⟩ := by
  intro m
  induction m with
  | zero =>
    intro i hi hb
    rw [f64h0_eq, condF (dlt_not (by omega)), dnil (xs := a) (i := i) (by omega)]
    by_cases h : i < b.length
    · rw [condT (dT (by omega)), dcons h]; rfl
    · rw [condF (dF (by omega)), dnil (xs := b) (i := i) (by omega)]; rfl
  | succ m ih =>
    intro i hi hb
    have hlt : i < a.length := by omega
    rw [f64h0_eq]
    rw [condT (dT (by first | omega | (simp only [List.length_append, List.length_cons, List.length_nil, List.length_set, List.length_take, List.length_drop, List.length_map]; omega) | (simp; omega)))]
    rw [condT (dT (by first | omega | (simp only [List.length_append, List.length_cons, List.length_nil, List.length_set, List.length_take, List.length_drop, List.length_map]; omega) | (simp; omega)))]
    rw [condT (dT (by first | omega | (simp only [List.length_append, List.length_cons, List.length_nil, List.length_set, List.length_take, List.length_drop, List.length_map]; omega) | (simp; omega)))]
    by_cases h : i < b.length
    · rw [condF (dF (by omega))]
      rw [condT (dT (by first | omega | (simp only [List.length_append, List.length_cons, List.length_nil, List.length_set, List.length_take, List.length_drop, List.length_map]; omega) | (simp; omega)))]
      rw [condT (dT (by first | omega | (simp only [List.length_append, List.length_cons, List.length_nil, List.length_set, List.length_take, List.length_drop, List.length_map]; omega) | (simp; omega)))]
      rw [getN _ _ _ hlt, getN _ _ _ h, cmpI_eq, wsucc (by omega), ih (i + 1) (by omega) (by omega), dcons hlt, dcons h, cmpGo]
      show cond (!(cmpI a[i] b[i] == 0)) _ _ = _
      cases cmpI a[i] b[i] == 0 <;> rfl
    · rw [condT (dT (by omega)), dcons hlt, dnil (xs := b) (i := i) (by omega)]; rfl
theorem r64 : R64 := by
  intro a0 a1 h
  simp only [decide_eq_true_eq] at h
  rw [f64_run]
  exact go64 a0 a1 h a0.length 0 (by omega) (by omega)

/-! ### stable sorting of few -/
theorem swapG_eq {α : Type} (l : List α) (j : Nat) (h : j + 1 < l.length) : swapG l j = (l.set (j + 1) (l[j]'(by omega))).set j l[j + 1] := by
  unfold swapG
  rw [List.getElem?_eq_getElem (by omega), List.getElem?_eq_getElem h]
theorem ltG_eq {α : Type} (lt : α → α → Bool) (l : List α) (j : Nat) (h : j + 1 < l.length) : ltG lt l j = lt l[j + 1] (l[j]'(by omega)) := by
  unfold ltG
  rw [List.getElem?_eq_getElem h, List.getElem?_eq_getElem (show j < l.length by omega)]
theorem swapG_len {α : Type} (l : List α) (j : Nat) : (swapG l j).length = l.length := by
  unfold swapG
  cases l[j]? <;> cases l[j + 1]? <;> simp
theorem sinkG_len {α : Type} (lt : α → α → Bool) : ∀ (j : Nat) (l : List α), (sinkG lt j l).length = l.length
  | 0, l => rfl
  | j + 1, l => by
    unfold sinkG
    cases ltG lt l j with
    | true => rw [cond_true, sinkG_len lt j, swapG_len]
    | false => rfl
theorem sortGoG_len {α : Type} (lt : α → α → Bool) : ∀ (m i : Nat) (l : List α), (sortGoG lt m i l).length = l.length
  | 0, i, l => rfl
  | m + 1, i, l => by unfold sortGoG; rw [sortGoG_len lt m, sinkG_len]
theorem sortG_len {α : Type} (lt : α → α → Bool) (l : List α) : (sortG lt l).length = l.length := sortGoG_len _ _ _ _
theorem swapG_map {α β : Type} (f : α → β) (l : List α) (j : Nat) : swapG (l.map f) j = (swapG l j).map f := by
  unfold swapG
  rw [List.getElem?_map, List.getElem?_map]
  cases l[j]? <;> cases l[j + 1]? <;> simp [List.map_set]
theorem ltG_map {α β : Type} (f : α → β) (lt : α → α → Bool) (lt' : β → β → Bool) (h : ∀ a b, lt' (f a) (f b) = lt a b) (l : List α) (j : Nat) : ltG lt' (l.map f) j = ltG lt l j := by
  unfold ltG
  rw [List.getElem?_map, List.getElem?_map]
  cases l[j]? <;> cases l[j + 1]? <;> simp [h]
theorem sinkG_map {α β : Type} (f : α → β) (lt : α → α → Bool) (lt' : β → β → Bool) (h : ∀ a b, lt' (f a) (f b) = lt a b) : ∀ (j : Nat) (l : List α), sinkG lt' j (l.map f) = (sinkG lt j l).map f
  | 0, l => rfl
  | j + 1, l => by
    unfold sinkG
    rw [ltG_map f lt lt' h, swapG_map, sinkG_map f lt lt' h j]
    cases ltG lt l j <;> rfl
theorem sortGoG_map {α β : Type} (f : α → β) (lt : α → α → Bool) (lt' : β → β → Bool) (h : ∀ a b, lt' (f a) (f b) = lt a b) : ∀ (m i : Nat) (l : List α), sortGoG lt' m i (l.map f) = (sortGoG lt m i l).map f
  | 0, i, l => rfl
  | m + 1, i, l => by unfold sortGoG; rw [sinkG_map f lt lt' h, sortGoG_map f lt lt' h m]
theorem sortG_map {α β : Type} (f : α → β) (lt : α → α → Bool) (lt' : β → β → Bool) (h : ∀ a b, lt' (f a) (f b) = lt a b) (l : List α) : sortG lt' (l.map f) = (sortG lt l).map f := by
  unfold sortG
  rw [List.length_map, sortGoG_map f lt lt' h]

theorem idxBy_split {α : Type} (p : α → Bool) : ∀ (l : List α) (s : Nat), (idxBy p l s = -1 ∧ l.filter (fun o => !p o) = l) ∨
    ∃ n, n < l.length ∧ idxBy p l s = ((s + n : Nat) : Int) ∧ l.take n ++ (l.drop (n + 1)).filter (fun o => !p o) = l.filter (fun o => !p o)
  | [], s => .inl ⟨rfl, rfl⟩
  | x :: l, s => by
    cases hx : p x with
    | true => exact .inr ⟨0, by simp, by simp [idxBy, hx], by simp [hx]⟩
    | false =>
      rcases idxBy_split p l (s + 1) with ⟨h1, h2⟩ | ⟨n, h1, h2, h3⟩
      · refine .inl ⟨?_, ?_⟩
        · simp only [idxBy, hx, cond_false]; exact h1
        · rw [List.filter_cons, hx]; simp only [Bool.not_false, if_true]; rw [h2]
      · refine .inr ⟨n + 1, by simp; omega, ?_, ?_⟩
        · simp only [idxBy, hx, cond_false]; rw [h2]; congr 1; omega
        · rw [List.take_succ_cons, List.drop_succ_cons, List.filter_cons, hx]; simp only [Bool.not_false, if_true]; rw [← h3]; rfl
theorem eta_i (x : Item) : ((x.1, (x.2.1, (x.2.2.1, x.2.2.2))) : Item) = x := rfl

end Go.Ev.M

set_option linter.unusedVariables false
set_option linter.unusedSimpArgs false
namespace Go.Ev.M
open Go Go.Ev Go.Proofs
theorem wrap_l (x y : Int) : wrap .i64 (wrap .i64 x + y) = wrap .i64 (x + y) := by
  simp only [wrap, IntKind.wrap_i64]
  omega
theorem long_last (p : Prgm) : ∀ (l : List Item) (x : Item) (i a : Int), ∃ t, (timGo p i a (x :: l)).getLast? = some t ∧ t.2.2 = (begGo p i a (x :: l)).2
  | [], x, i, a => ⟨_, rfl, rfl⟩
  | y :: l, x, i, a => by
    obtain ⟨t, h1, h2⟩ := long_last p l y (i + 1) (wrap .i64 (wrap .i64 (a + x.2.2.1) + gapAt p i x y))
    refine ⟨t, ?_, h2⟩
    simp only [timGo]
    rw [List.getLast?_cons, h1]; rfl
theorem long_eq (p : Prgm) : longR p = (begGo p 0 0 p.1).2 := by
  unfold longR
  cases p.1 with
  | nil => rfl
  | cons x l =>
    obtain ⟨t, h1, h2⟩ := long_last p l x 0 0
    rw [h1]; exact h2

/-! ### encores -/
theorem eta_pr (p : Prgm) : ((p.1, (p.2.1, (p.2.2.1, (p.2.2.2.1, p.2.2.2.2)))) : Prgm) = p := rfl
theorem enc_n (p : Prgm) (x : Item) : wrap .i64 (t74_0 p (lastI p) x + x.2.2.1) = encL p x := by
  unfold t74_0 t74 encL
  have e : ((lastI p).2.1 == x.2.1) = (x.2.1 == (lastI p).2.1) := by
    rw [Bool.eq_iff_iff, beq_iff_eq, beq_iff_eq]; exact eq_comm
  rw [e]
  cases x.2.1 == (lastI p).2.1 with
  | true => show wrap .i64 (p.2.2.1 + x.2.2.1) = wrap .i64 (x.2.2.1 + p.2.2.1); rw [Int.add_comm]
  | false => show wrap .i64 (p.2.1 + x.2.2.1) = wrap .i64 (x.2.2.1 + p.2.1); rw [Int.add_comm]
theorem last_ix (p : Prgm) (h : 0 < p.1.length) (h5 : p.1.length ≤ 5) : List.getD p.1 (Int.toNat (wrap .i64 (((List.length p.1 : Nat) : Int) - (1 : Int)))) (Tc.dflt tItem) = lastI p := by
  rw [wrap_in (by omega) (by omega)]
  have e : Int.toNat ((p.1.length : Int) - 1) = p.1.length - 1 := by omega
  rw [e]; rfl

def fA (p : Prgm) (x : Item) : Again := (x.1, encL p x)
theorem dle_not (a b : Int) : decide (a ≤ b) = !decide (a > b) := by
  by_cases h : a ≤ b
  · rw [dT h, dF (p := a > b) (by omega)]; rfl
  · rw [dF h, dT (p := a > b) (by omega)]; rfl
theorem long_of (p : Prgm) (its : List Item) (h : its.length ≤ 1000) : t62_ok p its = true ∧ t62_0 p its = fitL p its := by
  unfold t62_ok t62_0 t62
  rw [dT h]; exact ⟨rfl, rfl⟩
theorem fit_tree {best pl : List Int} {longest most L : Int} (hb : best.length ≤ 1000) (hl : pl.length ≤ 1000) (A B : Option Fr) :
    cond (decide (L ≤ most)) (cond (decide ((wrap .i64 (((List.length pl : Nat) : Int) - ((List.length best : Nat) : Int))) > (0 : Int))) A (cond ((wrap .i64 (((List.length pl : Nat) : Int) - ((List.length best : Nat) : Int))) == (0 : Int)) (cond (decide (L > longest)) A (cond (L == longest) (cond (decide (List.length pl ≤ 1000)) (cond (decide ((cmpGo pl best) < (0 : Int))) A B) none) B)) B)) B = cond (fitB best longest most pl L) A B := by
  unfold fitB
  rw [wrap_in (by omega) (by omega), dT hl, cond_true]
  cases decide (L ≤ most) with
  | false => rfl
  | true =>
    by_cases h1 : best.length < pl.length
    · rw [dT (p := (pl.length : Int) - best.length > 0) (by omega), dT h1]; rfl
    · rw [dF (p := (pl.length : Int) - best.length > 0) (by omega), dF h1]
      by_cases h2 : pl.length = best.length
      · have : ((pl.length : Int) - best.length == 0) = true := by rw [beq_iff_eq]; omega
        rw [this, dT h2]
        cases decide (L > longest) <;> cases L == longest <;> cases decide (cmpGo pl best < 0) <;> rfl
      · have : ((pl.length : Int) - best.length == 0) = false := by rw [beq_eq_false_iff_ne]; omega
        rw [this, dF h2]; rfl
theorem fit_tree2 {best pl : List Int} {longest most L : Int} (hl : pl.length ≤ 1000) (A B : Option Fr) :
    cond (decide (L ≤ most)) (cond (decide (((List.length pl : Nat) : Int) > ((List.length best : Nat) : Int))) A (cond (((List.length pl : Nat) : Int) == ((List.length best : Nat) : Int)) (cond (decide (L > longest)) A (cond (L == longest) (cond (decide (List.length pl ≤ 1000)) (cond (decide ((cmpGo pl best) < (0 : Int))) A B) none) B)) B)) B = cond (fitB best longest most pl L) A B := by
  unfold fitB
  rw [dT hl, cond_true]
  cases decide (L ≤ most) with
  | false => rfl
  | true =>
    by_cases h1 : best.length < pl.length
    · rw [dT (p := (pl.length : Int) > best.length) (by omega), dT h1]; rfl
    · rw [dF (p := (pl.length : Int) > best.length) (by omega), dF h1]
      by_cases h2 : pl.length = best.length
      · have : ((pl.length : Int) == best.length) = true := by rw [beq_iff_eq]; omega
        rw [this, dT h2]
        cases decide (L > longest) <;> cases L == longest <;> cases decide (cmpGo pl best < 0) <;> rfl
      · have : ((pl.length : Int) == best.length) = false := by rw [beq_eq_false_iff_ne]; omega
        rw [this, dF h2]; rfl
theorem selP_in (set : Int) : ∀ (l : List Item) (i : Nat), ∀ x ∈ selP set l i, (i : Int) ≤ x ∧ x < ((i + l.length : Nat) : Int)
  | [], i, x, h => by cases h
  | y :: l, i, x, h => by
    have ih := selP_in set l (i + 1)
    simp only [selP] at h
    simp only [List.length_cons]
    cases hb : bitS set i with
    | true =>
      rw [hb] at h
      rcases List.mem_cons.1 h with rfl | h
      · omega
      · have := ih x h; omega
    | false => rw [hb] at h; have := ih x h; omega
theorem selP_len (set : Int) : ∀ (l : List Item) (i : Nat), (selP set l i).length ≤ l.length
  | [], i => Nat.le_refl _
  | y :: l, i => by
    have ih := selP_len set l (i + 1)
    simp only [selP, List.length_cons]
    cases bitS set i <;> simp <;> omega
theorem selI_len (set : Int) : ∀ (l : List Item) (i : Nat), (selI set l i).length ≤ l.length
  | [], i => Nat.le_refl _
  | y :: l, i => by
    have ih := selI_len set l (i + 1)
    simp only [selI, List.length_cons]
    cases bitS set i <;> simp <;> omega

theorem pow_small : ∀ n ∈ List.range 6, (wrap .i64 ((1 : Int) * 2 ^ (min (Int.toNat ((n : Nat) : Int)) (IntKind.bits .i64)))) = ((2 ^ n : Nat) : Int) ∧ 2 ^ n ≤ 32 := by decide +kernel

end Go.Ev.M

set_option linter.unusedVariables false
set_option linter.unusedSimpArgs false
namespace Go.Ev.M
open Go Go.Ev Go.Proofs
/-! ### the order of strings and of ranks -/
theorem bl_cons (x y : UInt8) (l m : Bytes) : bLess (x :: l) (y :: m) = (decide (x < y) || (x == y && bLess l m)) := rfl
theorem bl_nil (l : Bytes) : bLess l [] = false := by cases l <;> rfl
theorem bl_irr : ∀ a : Bytes, bLess a a = false
  | [] => rfl
  | x :: l => by
    rw [bl_cons, bl_irr l]
    simp
theorem bl_trans : ∀ a b c : Bytes, bLess a b = true → bLess b c = true → bLess a c = true
  | a, [], _, h, _ => by rw [bl_nil] at h; cases h
  | _, b :: m, [], _, h => by rw [bl_nil] at h; cases h
  | [], _ :: _, _ :: _, _, _ => rfl
  | x :: l, y :: m, z :: k, h1, h2 => by
    have ih := bl_trans l m k
    rw [bl_cons] at *
    simp only [Bool.or_eq_true, Bool.and_eq_true, decide_eq_true_eq, beq_iff_eq] at *
    rcases h1 with h1 | ⟨rfl, h1⟩
    · rcases h2 with h2 | ⟨rfl, h2⟩
      · exact .inl (UInt8.lt_trans h1 h2)
      · exact .inl h1
    · rcases h2 with h2 | ⟨rfl, h2⟩
      · exact .inl h2
      · exact .inr ⟨rfl, ih h1 h2⟩
theorem bl_tri : ∀ a b : Bytes, bLess a b = false → bLess b a = false → a = b
  | [], [], _, _ => rfl
  | [], _ :: _, h, _ => by cases h
  | _ :: _, [], _, h => by cases h
  | x :: l, y :: m, h1, h2 => by
    have ih := bl_tri l m
    rw [bl_cons] at h1 h2
    simp only [Bool.or_eq_false_iff, Bool.and_eq_false_iff, decide_eq_false_iff_not, beq_eq_false_iff_ne] at h1 h2
    have e : x = y := by
      have a1 : ¬ x.toNat < y.toNat := fun h => h1.1 (UInt8.lt_iff_toNat_lt.2 h)
      have a2 : ¬ y.toNat < x.toNat := fun h => h2.1 (UInt8.lt_iff_toNat_lt.2 h)
      exact UInt8.toNat_inj.1 (by omega)
    subst e
    rw [ih (h1.2.resolve_left (fun h => h rfl)) (h2.2.resolve_left (fun h => h rfl))]
theorem bl_asym {a b : Bytes} (h : bLess a b = true) : bLess b a = false := by
  cases hb : bLess b a with
  | false => rfl
  | true => have := bl_trans a b a h hb; rw [bl_irr] at this; cases this
theorem cmpB_cases (a b : Bytes) : (bLess a b = true ∧ cmpB a b = -1 ∧ cmpB b a = 1) ∨ (a = b ∧ cmpB a b = 0 ∧ cmpB b a = 0) ∨ (bLess b a = true ∧ cmpB a b = 1 ∧ cmpB b a = -1) := by
  unfold cmpB
  cases h1 : bLess a b with
  | true =>
    have h2 := bl_asym h1
    have h3 : (b == a) = false := by rw [beq_eq_false_iff_ne]; intro e; subst e; rw [bl_irr] at h1; cases h1
    exact .inl ⟨rfl, rfl, by rw [h2, h3]; rfl⟩
  | false =>
    cases h2 : bLess b a with
    | true =>
      have h3 : (a == b) = false := by rw [beq_eq_false_iff_ne]; intro e; subst e; rw [bl_irr] at h2; cases h2
      exact .inr (.inr ⟨rfl, by rw [h3]; rfl, rfl⟩)
    | false =>
      have e := bl_tri a b h1 h2
      subst e
      exact .inr (.inl ⟨rfl, by simp, by simp⟩)
theorem cmpB_lt {a b : Bytes} : cmpB a b < 0 ↔ bLess a b = true := by
  rcases cmpB_cases a b with ⟨h1, h2, h3⟩ | ⟨h1, h2, h3⟩ | ⟨h1, h2, h3⟩
  · rw [h2]; exact ⟨fun _ => h1, fun _ => by decide⟩
  · rw [h2]; subst h1; rw [bl_irr]; exact ⟨fun h => absurd h (by decide), fun h => by cases h⟩
  · rw [h2, bl_asym h1]; exact ⟨fun h => absurd h (by decide), fun h => by cases h⟩
theorem cmpB_neg (a b : Bytes) : cmpB b a = -cmpB a b := by
  rcases cmpB_cases a b with ⟨h1, h2, h3⟩ | ⟨h1, h2, h3⟩ | ⟨h1, h2, h3⟩ <;> rw [h2, h3] <;> rfl
theorem cmpB_zero {a b : Bytes} (h : cmpB a b = 0) : a = b := by
  rcases cmpB_cases a b with ⟨h1, h2, h3⟩ | ⟨h1, h2, h3⟩ | ⟨h1, h2, h3⟩
  · rw [h2] at h; cases h
  · exact h1
  · rw [h2] at h; cases h
theorem cmpB_self (a : Bytes) : cmpB a a = 0 := by
  rcases cmpB_cases a a with ⟨h1, h2, h3⟩ | ⟨h1, h2, h3⟩ | ⟨h1, h2, h3⟩
  · rw [bl_irr] at h1; cases h1
  · exact h2
  · rw [bl_irr] at h1; cases h1
theorem cmpS_neg : ∀ l m : List Bytes, cmpS m l = -cmpS l m
  | [], [] => rfl
  | [], _ :: _ => rfl
  | _ :: _, [] => rfl
  | x :: l, y :: m => by
    have ih := cmpS_neg l m
    unfold cmpS
    rw [cmpB_neg x y, ih]
    by_cases h : cmpB x y = 0
    · rw [h]; rfl
    · have e1 : (cmpB x y == 0) = false := by simpa using h
      have e2 : (-cmpB x y == 0) = false := by rw [beq_eq_false_iff_ne]; omega
      rw [e1, e2]; rfl
theorem cmpS_zero : ∀ l m : List Bytes, cmpS l m = 0 → l = m
  | [], [], _ => rfl
  | [], _ :: _, h => by cases h
  | _ :: _, [], h => by cases h
  | x :: l, y :: m, h => by
    have ih := cmpS_zero l m
    unfold cmpS at h
    by_cases h0 : cmpB x y = 0
    · rw [h0] at h; rw [cmpB_zero h0, ih h]
    · have e1 : (cmpB x y == 0) = false := by simpa using h0
      rw [e1] at h; exact absurd h h0
theorem cmpS_cons {x y : Bytes} {l m : List Bytes} : cmpS (x :: l) (y :: m) < 0 ↔ cmpB x y < 0 ∨ (x = y ∧ cmpS l m < 0) := by
  rw [cmpS]
  by_cases h0 : cmpB x y = 0
  · rw [h0]
    have e := cmpB_zero h0
    exact ⟨fun h => .inr ⟨e, h⟩, fun h => by rcases h with h | h; exact absurd h (by decide); exact h.2⟩
  · have e1 : (cmpB x y == 0) = false := by simpa using h0
    rw [e1]
    exact ⟨fun h => .inl h, fun h => by
      rcases h with h | ⟨rfl, h⟩
      · exact h
      · exact absurd (cmpB_self x) h0⟩
theorem cmpS_trans : ∀ l m k : List Bytes, cmpS l m < 0 → cmpS m k < 0 → cmpS l k < 0
  | [], [], _, h, _ => absurd h (by decide)
  | _ :: _, [], _, h, _ => absurd (show (1 : Int) < 0 from h) (by decide)
  | _, _ :: _, [], _, h => absurd (show (1 : Int) < 0 from h) (by decide)
  | [], _ :: _, _ :: _, _, _ => show (-1 : Int) < 0 by decide
  | x :: l, y :: m, z :: k, h1, h2 => by
    have ih := cmpS_trans l m k
    rw [cmpS_cons] at *
    rcases h1 with h1 | ⟨rfl, h1⟩
    · rcases h2 with h2 | ⟨rfl, h2⟩
      · exact .inl (cmpB_lt.2 (bl_trans x y z (cmpB_lt.1 h1) (cmpB_lt.1 h2)))
      · exact .inl h1
    · rcases h2 with h2 | ⟨rfl, h2⟩
      · exact .inl h2
      · exact .inr ⟨rfl, ih h1 h2⟩
theorem less_iff {a b : Rank} : lessR a b = true ↔ a.1 < b.1 ∨ (a.1 = b.1 ∧ (a.2.1 < b.2.1 ∨ (a.2.1 = b.2.1 ∧ cmpS a.2.2 b.2.2 < 0))) := by
  unfold lessR
  by_cases h1 : a.1 = b.1
  · have e1 : (a.1 != b.1) = false := by rw [h1]; simp
    rw [e1, cond_false]
    by_cases h2 : a.2.1 = b.2.1
    · have e2 : (a.2.1 != b.2.1) = false := by rw [h2]; simp
      rw [e2, cond_false, decide_eq_true_eq]
      exact ⟨fun h => .inr ⟨h1, .inr ⟨h2, h⟩⟩, fun h => by
        rcases h with h | ⟨_, h | ⟨_, h⟩⟩
        · omega
        · omega
        · exact h⟩
    · have e2 : (a.2.1 != b.2.1) = true := by simpa using h2
      rw [e2, cond_true, decide_eq_true_eq]
      exact ⟨fun h => .inr ⟨h1, .inl h⟩, fun h => by
        rcases h with h | ⟨_, h | ⟨h, _⟩⟩
        · omega
        · exact h
        · exact absurd h h2⟩
  · have e1 : (a.1 != b.1) = true := by simpa using h1
    rw [e1, cond_true, decide_eq_true_eq]
    exact ⟨fun h => .inl h, fun h => by
      rcases h with h | ⟨h, _⟩
      · exact h
      · exact absurd h h1⟩
theorem less_irr (a : Rank) : lessR a a = false := by
  cases h : lessR a a with
  | false => rfl
  | true =>
    have := less_iff.1 h
    have e := cmpS_neg a.2.2 a.2.2
    omega
theorem less_trans {a b c : Rank} (h1 : lessR a b = true) (h2 : lessR b c = true) : lessR a c = true := by
  rw [less_iff] at *
  rcases h1 with h1 | ⟨e1, h1 | ⟨e2, h1⟩⟩ <;> rcases h2 with h2 | ⟨g1, h2 | ⟨g2, h2⟩⟩
  all_goals first
    | exact .inl (by omega)
    | exact .inr ⟨by omega, .inl (by omega)⟩
    | exact .inr ⟨by omega, .inr ⟨by omega, cmpS_trans _ _ _ h1 h2⟩⟩
theorem less_tri {a b : Rank} (h1 : lessR a b = false) (h2 : lessR b a = false) : a = b := by
  replace h1 : ¬ lessR a b = true := by rw [h1]; simp
  replace h2 : ¬ lessR b a = true := by rw [h2]; simp
  rw [less_iff] at h1 h2
  have e := cmpS_neg a.2.2 b.2.2
  have a1 : a.1 = b.1 := by omega
  have a2 : a.2.1 = b.2.1 := by omega
  have a4 : cmpS a.2.2 b.2.2 = 0 := by omega
  have a3 := cmpS_zero _ _ a4
  clear a4 e h1 h2
  obtain ⟨x, y, z⟩ := a
  obtain ⟨x', y', z'⟩ := b
  simp only at a1 a2 a3
  subst a1; subst a2; subst a3; rfl

/-! ### the least of some -/
def runR (L : List Rank) (st : Bool × Rank) : Bool × Rank := L.foldl (fun st r => updF r st) st
theorem run_least : ∀ (L : List Rank) (r0 : Rank), ∃ r, runR L (true, r0) = (true, r) ∧ r ∈ r0 :: L ∧ ∀ s ∈ r0 :: L, lessR s r = false
  | [], r0 => ⟨r0, rfl, List.mem_cons_self .., fun s hs => by rcases List.mem_cons.1 hs with rfl | h; exact less_irr s; cases h⟩
  | s :: L, r0 => by
    unfold runR
    rw [List.foldl_cons]
    cases h : lessR s r0 with
    | true =>
      have e : updF s (true, r0) = (true, s) := by unfold updF; simp [h]
      rw [e]
      obtain ⟨r, h1, h2, h3⟩ := run_least L s
      refine ⟨r, h1, List.mem_cons_of_mem _ h2, fun t ht => ?_⟩
      rcases List.mem_cons.1 ht with rfl | ht
      · cases hr : lessR t r with
        | false => rfl
        | true => have := less_trans h hr; rw [h3 s (List.mem_cons_self ..)] at this; cases this
      · exact h3 t ht
    | false =>
      have e : updF s (true, r0) = (true, r0) := by unfold updF; simp [h]
      rw [e]
      obtain ⟨r, h1, h2, h3⟩ := run_least L r0
      have m2 : r ∈ r0 :: s :: L := by
        rcases List.mem_cons.1 h2 with rfl | h2
        · exact List.mem_cons_self ..
        · exact List.mem_cons_of_mem _ (List.mem_cons_of_mem _ h2)
      refine ⟨r, h1, m2, fun t ht => ?_⟩
      rcases List.mem_cons.1 ht with rfl | ht
      · exact h3 t (List.mem_cons_self ..)
      · rcases List.mem_cons.1 ht with rfl | ht
        · cases hr : lessR t r with
          | false => rfl
          | true =>
            have h4 := h3 r0 (List.mem_cons_self ..)
            cases h5 : lessR r r0 with
            | true => have := less_trans hr h5; rw [h] at this; cases this
            | false => have := less_tri h4 h5; subst this; rw [h] at hr; cases hr
        · exact h3 t (List.mem_cons_of_mem _ ht)
theorem run_same {L M : List Rank} (hL : L ≠ []) (hm : ∀ r, r ∈ L ↔ r ∈ M) (a b : Rank) : (runR L (false, a)).2 = (runR M (false, b)).2 := by
  cases L with
  | nil => exact absurd rfl hL
  | cons x L =>
    cases M with
    | nil => have := (hm x).1 (List.mem_cons_self ..); cases this
    | cons y M =>
      have e1 : runR (x :: L) (false, a) = runR L (true, x) := by unfold runR; rw [List.foldl_cons]; rfl
      have e2 : runR (y :: M) (false, b) = runR M (true, y) := by unfold runR; rw [List.foldl_cons]; rfl
      rw [e1, e2]
      obtain ⟨r, h1, h2, h3⟩ := run_least L x
      obtain ⟨s, g1, g2, g3⟩ := run_least M y
      rw [h1, g1]
      exact less_tri (g3 r ((hm r).1 h2)) (h3 s ((hm s).2 g2))

/-! ### all orders, in two ways -/
def permA : Nat → List Item → Nat → List (List Item)
  | 0, xs, _ => [xs]
  | m + 1, xs, i => (List.range' i (m + 1)).flatMap fun j => permA m (swapL xs i j) (i + 1)
def permB (its : List Item) : Nat → List Item → List (List Item)
  | 0, l => [l]
  | m + 1, l => its.flatMap fun x => cond (l.any fun o => o.1 == x.1) [] (permB its m (l ++ [x]))
theorem ordF_run (c : Int × Int × Int × Int) : ∀ (m : Nat) (xs : List Item) (i : Nat) (st : Bool × Rank), ordF c m xs i st = runR ((permA m xs i).map fun l => rankF (l, c)) st
  | 0, xs, i, st => rfl
  | m + 1, xs, i, st => by
    have ih := ordF_run c m
    unfold ordF permA runR
    rw [List.map_flatMap, List.foldl_flatMap]
    congr 1
    funext st j
    exact ih _ _ _
theorem betR_eq (a b : Prgm) : betR a b = lessR (rankF a) (rankF b) := by
  have e1 := long_eq a
  have e2 := long_eq b
  unfold betR lessR rankF
  rw [e1, e2]
  generalize (begGo a 0 0 a.1).2 = x1
  generalize (begGo b 0 0 b.1).2 = y1
  generalize pairsF a.2.2.2.2 0 a.1 0 = x2
  generalize pairsF b.2.2.2.2 0 b.1 0 = y2
  simp only [cmpGo, cmpI]
  by_cases h1 : x1 < y1
  · have h2 : x1 ≠ y1 := by omega
    simp [h1, h2]
  · by_cases h2 : x1 > y1
    · have h3 : x1 ≠ y1 := by omega
      simp [h1, h2, h3]
    · have h3 : x1 = y1 := by omega
      subst h3
      by_cases g1 : x2 < y2
      · have g2 : x2 ≠ y2 := by omega
        simp [g1, g2]
      · by_cases g2 : x2 > y2
        · have g3 : x2 ≠ y2 := by omega
          simp [g1, g2, g3]
        · have g3 : x2 = y2 := by omega
          subst g3
          simp
def phiQ (st : Bool × Prgm) : Bool × Rank := (st.1, rankF st.2)
theorem phi_upd (q : Prgm) (st : Bool × Prgm) : phiQ (updQ q st) = updF (rankF q) (phiQ st) := by
  unfold updQ updF
  rw [betR_eq]
  show phiQ (cond (!st.1 || lessR (rankF q) (rankF st.2)) (true, q) st) = cond (!st.1 || lessR (rankF q) (rankF st.2)) (true, rankF q) (phiQ st)
  cases (!st.1 || lessR (rankF q) (rankF st.2)) <;> rfl
theorem foldl_phi {α : Type} (f : Bool × Prgm → α → Bool × Prgm) (g : Bool × Rank → α → Bool × Rank) (h : ∀ st x, phiQ (f st x) = g (phiQ st) x) : ∀ (l : List α) (st : Bool × Prgm), phiQ (l.foldl f st) = l.foldl g (phiQ st)
  | [], st => rfl
  | x :: l, st => by rw [List.foldl_cons, List.foldl_cons, foldl_phi f g h l, h]
theorem tryF_run (its : List Item) (c : Int × Int × Int × Int) : ∀ (m : Nat) (l : List Item) (st : Bool × Prgm), phiQ (tryF its c m l st) = runR ((permB its m l).map fun l => rankF (l, c)) (phiQ st)
  | 0, l, st => phi_upd (l, c) st
  | m + 1, l, st => by
    have ih := tryF_run its c m
    unfold tryF permB runR
    rw [List.map_flatMap, List.foldl_flatMap]
    refine foldl_phi _ _ (fun st x => ?_) its st
    cases l.any fun o => o.1 == x.1 with
    | true => rfl
    | false => exact ih _ _

def KN (l : List Item) : Prop := ∀ (a b : Nat) (ha : a < l.length) (hb : b < l.length), l[a].1 = l[b].1 → a = b
def Sel (its l : List Item) : Prop := l.length = its.length ∧ KN l ∧ ∀ x ∈ l, x ∈ its
theorem swapL_len (xs : List Item) (i j : Nat) : (swapL xs i j).length = xs.length := by simp [swapL]
theorem swapL_get (xs : List Item) (i j a : Nat) (hi : i < xs.length) (hj : j < xs.length) (ha : a < xs.length) :
    (swapL xs i j)[a]'(by rw [swapL_len]; exact ha) = xs[if a = j then i else if a = i then j else a]'(by split; exact hi; split; exact hj; exact ha) := by
  have hb : (if a = j then i else if a = i then j else a) < xs.length := by split; exact hi; split; exact hj; exact ha
  have e : (swapL xs i j)[a]? = xs[if a = j then i else if a = i then j else a]? := by
    unfold swapL
    rw [List.getElem?_set, List.getElem?_set, List.length_set, List.getD_eq_getElem?_getD, List.getD_eq_getElem?_getD, List.getElem?_eq_getElem hi, List.getElem?_eq_getElem hj]
    by_cases h1 : a = j
    · subst h1; simp [hj, hi]
    · by_cases h2 : a = i
      · subst h2
        rw [if_neg (Ne.symm h1), if_pos rfl]
        simp [h1, hi, hj]
      · rw [if_neg (Ne.symm h1), if_neg (Ne.symm h2)]
        simp [h1, h2]
  rw [List.getElem?_eq_getElem (by rw [swapL_len]; exact ha), List.getElem?_eq_getElem hb] at e
  exact Option.some.inj e
theorem swapL_mem (xs : List Item) (i j : Nat) (hi : i < xs.length) (hj : j < xs.length) (x : Item) : x ∈ swapL xs i j ↔ x ∈ xs := by
  constructor
  · intro h
    obtain ⟨a, ha, rfl⟩ := List.mem_iff_getElem.1 h
    rw [swapL_get xs i j a hi hj (by rw [swapL_len] at ha; exact ha)]
    exact List.getElem_mem _
  · intro h
    obtain ⟨a, ha, rfl⟩ := List.mem_iff_getElem.1 h
    have hb : (if a = j then i else if a = i then j else a) < xs.length := by split; exact hi; split; exact hj; exact ha
    refine List.mem_iff_getElem.2 ⟨if a = j then i else if a = i then j else a, by rw [swapL_len]; exact hb, ?_⟩
    rw [swapL_get xs i j _ hi hj hb]
    congr 1
    by_cases h1 : a = j
    · subst h1
      simp only [if_true]
      by_cases h2 : i = a
      · simp [h2]
      · simp [h2]
    · simp only [h1, if_false]
      by_cases h2 : a = i
      · subst h2; simp
      · simp [h1, h2]
theorem swapL_kn (xs : List Item) (i j : Nat) (hi : i < xs.length) (hj : j < xs.length) (h : KN xs) : KN (swapL xs i j) := by
  intro a b ha hb e
  rw [swapL_len] at ha hb
  rw [swapL_get xs i j a hi hj ha, swapL_get xs i j b hi hj hb] at e
  have := h _ _ _ _ e
  by_cases a1 : a = j <;> by_cases b1 : b = j <;> by_cases a2 : a = i <;> by_cases b2 : b = i <;> simp_all
theorem permA_sel (its : List Item) : ∀ (m : Nat) (xs : List Item) (i : Nat), i + m = xs.length → Sel its xs → ∀ l ∈ permA m xs i, Sel its l
  | 0, xs, i, hi, h, l, hl => by rw [List.mem_singleton.1 hl]; exact h
  | m + 1, xs, i, hi, h, l, hl => by
    obtain ⟨j, hj, hl⟩ := List.mem_flatMap.1 hl
    have hj := List.mem_range'_1.1 hj
    refine permA_sel its m _ (i + 1) (by rw [swapL_len]; omega) ⟨by rw [swapL_len]; exact h.1, swapL_kn _ _ _ (by omega) (by omega) h.2.1, fun x hx => h.2.2 x ((swapL_mem xs i j (by omega) (by omega) x).1 hx)⟩ l hl
theorem sel_permA (its : List Item) (l : List Item) (hl : Sel its l) : ∀ (m : Nat) (xs : List Item) (i : Nat), i + m = xs.length → xs.length = its.length → (∀ x, x ∈ xs ↔ x ∈ its) → (∀ a (h1 : a < l.length) (h2 : a < xs.length), a < i → l[a] = xs[a]) → l ∈ permA m xs i
  | 0, xs, i, hi, hx, hm, he => by
    have : l = xs := List.ext_getElem (by rw [hl.1, hx]) (fun a h1 h2 => he a h1 h2 (by omega))
    rw [this]; exact List.mem_singleton.2 rfl
  | m + 1, xs, i, hi, hx, hm, he => by
    have h1 : i < l.length := by rw [hl.1, ← hx]; omega
    have hmem : l[i] ∈ xs := (hm _).2 (hl.2.2 _ (List.getElem_mem h1))
    obtain ⟨j, hj, ej⟩ := List.mem_iff_getElem.1 hmem
    have hij : i ≤ j := by
      by_cases hc : j < i
      · have := he j (by omega) hj hc
        have e2 : l[j].1 = l[i].1 := by rw [this, ej]
        have := hl.2.1 j i (by omega) h1 e2
        omega
      · omega
    refine List.mem_flatMap.2 ⟨j, List.mem_range'_1.2 ⟨hij, by omega⟩, ?_⟩
    refine sel_permA its l hl m _ (i + 1) (by rw [swapL_len]; omega) (by rw [swapL_len]; exact hx) (fun x => (swapL_mem xs i j (by omega) hj x).trans (hm x)) ?_
    intro a ha hb hai
    rw [swapL_len] at hb
    rw [swapL_get xs i j a (by omega) hj hb]
    by_cases h2 : a = i
    · subst h2
      by_cases h3 : a = j
      · subst h3; simp [ej]
      · simp [h3, ej]
    · have h3 : a ≠ j := by omega
      simp only [h2, h3, if_false]
      exact he a ha hb (by omega)
theorem permB_sel (its : List Item) : ∀ (m : Nat) (l : List Item), KN l → (∀ x ∈ l, x ∈ its) → ∀ k ∈ permB its m l, KN k ∧ (∀ x ∈ k, x ∈ its) ∧ k.length = l.length + m
  | 0, l, h1, h2, k, hk => by rw [List.mem_singleton.1 hk]; exact ⟨h1, h2, rfl⟩
  | m + 1, l, h1, h2, k, hk => by
    obtain ⟨x, hx, hk⟩ := List.mem_flatMap.1 hk
    cases hc : l.any fun o => o.1 == x.1 with
    | true => rw [hc] at hk; cases hk
    | false =>
      rw [hc] at hk
      have hne : ∀ y ∈ l, y.1 ≠ x.1 := fun y hy => by
        have := List.any_eq_false.1 hc y hy
        simpa using this
      have hk' := permB_sel its m (l ++ [x]) (by
        intro a b ha hb e
        rw [List.length_append, List.length_singleton] at ha hb
        by_cases ha' : a < l.length
        · by_cases hb' : b < l.length
          · rw [List.getElem_append_left ha', List.getElem_append_left hb'] at e
            exact h1 a b ha' hb' e
          · rw [List.getElem_append_left ha', List.getElem_append_right (by omega)] at e
            simp only [List.getElem_singleton] at e
            exact absurd e (hne _ (List.getElem_mem ha'))
        · by_cases hb' : b < l.length
          · rw [List.getElem_append_left hb', List.getElem_append_right (by omega)] at e
            simp only [List.getElem_singleton] at e
            exact absurd e.symm (hne _ (List.getElem_mem hb'))
          · omega) (by
        intro y hy
        rcases List.mem_append.1 hy with h | h
        · exact h2 y h
        · rw [List.mem_singleton.1 h]; exact hx) k hk
      refine ⟨hk'.1, hk'.2.1, ?_⟩
      rw [hk'.2.2, List.length_append, List.length_singleton]; omega
theorem sel_permB (its : List Item) (k : List Item) (hk : Sel its k) : ∀ (m : Nat) (i : Nat), i + m = k.length → k ∈ permB its m (k.take i)
  | 0, i, hi => by rw [List.take_of_length_le (by omega)]; exact List.mem_singleton.2 rfl
  | m + 1, i, hi => by
    have h1 : i < k.length := by omega
    refine List.mem_flatMap.2 ⟨k[i], hk.2.2 _ (List.getElem_mem h1), ?_⟩
    have hc : ((k.take i).any fun o => o.1 == k[i].1) = false := by
      rw [List.any_eq_false]
      intro y hy
      obtain ⟨a, ha, rfl⟩ := List.mem_iff_getElem.1 hy
      rw [List.length_take] at ha
      rw [List.getElem_take]
      intro e
      have := hk.2.1 a i (by omega) h1 (by simpa using e)
      omega
    rw [hc]
    have := sel_permB its k hk m (i + 1) (by omega)
    rw [List.take_succ_eq_append_getElem h1] at this
    exact this
theorem orders_same (p : Prgm) (hk : KN p.1) : (ordS p).2 = rankF (tryS p).2 := by
  have hs : Sel p.1 p.1 := ⟨rfl, hk, fun x h => h⟩
  have e1 : ordS p = runR ((permA p.1.length p.1 0).map fun l => rankF (l, p.2)) (false, (0, (0, []))) := ordF_run p.2 _ _ _ _
  have e2 : phiQ (tryS p) = runR ((permB p.1 p.1.length []).map fun l => rankF (l, p.2)) (false, rankF p) := tryF_run p.1 p.2 _ _ _
  have hmem : ∀ l, l ∈ permA p.1.length p.1 0 ↔ l ∈ permB p.1 p.1.length [] := by
    intro l
    constructor
    · intro h
      have h := permA_sel p.1 _ p.1 0 (Nat.zero_add _) hs l h
      have := sel_permB p.1 l h l.length 0 (Nat.zero_add _)
      rw [h.1] at this
      exact this
    · intro h
      have h := permB_sel p.1 p.1.length [] (fun a b ha => by cases ha) (fun x hx => by cases hx) l h
      exact sel_permA p.1 l ⟨by rw [h.2.2]; simp, h.1, h.2.1⟩ _ p.1 0 (Nat.zero_add _) rfl (fun x => Iff.rfl) (fun a _ _ ha => absurd ha (Nat.not_lt_zero _))
  have hne : ((permA p.1.length p.1 0).map fun l => rankF (l, p.2)) ≠ [] := by
    have : p.1 ∈ permA p.1.length p.1 0 := sel_permA p.1 p.1 hs _ p.1 0 (Nat.zero_add _) rfl (fun x => Iff.rfl) (fun a _ _ ha => absurd ha (Nat.not_lt_zero _))
    intro e
    rw [List.map_eq_nil_iff] at e
    rw [e] at this; cases this
  rw [e1]
  show _ = (phiQ (tryS p)).2
  rw [e2]
  refine run_same hne (fun r => ?_) _ _
  rw [List.mem_map, List.mem_map]
  constructor
  · rintro ⟨l, h, rfl⟩; exact ⟨l, (hmem l).1 h, rfl⟩
  · rintro ⟨l, h, rfl⟩; exact ⟨l, (hmem l).2 h, rfl⟩

end Go.Ev.M

set_option linter.unusedVariables false
set_option linter.unusedSimpArgs false
namespace Go.Ev.M
open Go Go.Ev Go.Proofs
theorem go97 (a : List Bytes) (x : Bytes) (ha : a.length ≤ 1000) : ∀ (m i : Nat), i + m = a.length → f97h0 a x a.length i = some ⟨[.dat tI (idxS x (a.drop i) i)], []⟩ := by
  intro m
  induction m with
  | zero => intro i hi; rw [f97h0_eq, condF (dlt_not (by omega)), dnil (xs := a) (i := i) (by omega)]; rfl
  | succ m ih =>
    intro i hi
    have hlt : i < a.length := by omega
    rw [f97h0_eq]
    rw [condT (dT (by first | omega | (simp only [List.length_append, List.length_cons, List.length_nil, List.length_set, List.length_take, List.length_drop, List.length_map]; omega) | (simp; omega)))]
    rw [condT (dT (by first | omega | (simp only [List.length_append, List.length_cons, List.length_nil, List.length_set, List.length_take, List.length_drop, List.length_map]; omega) | (simp; omega)))]
    rw [condT (dT (by first | omega | (simp only [List.length_append, List.length_cons, List.length_nil, List.length_set, List.length_take, List.length_drop, List.length_map]; omega) | (simp; omega)))]
    rw [getN _ _ _ hlt, dcons hlt, wsucc (by omega), ih (i + 1) (by omega)]
    simp only [idxS]
    cases x == a[i] <;> rfl
theorem r97 : R97 := by
  intro a0 a1 h
  rw [f97_run]
  exact go97 a0 a1 (by simpa using h) a0.length 0 (by omega)
theorem r70 : R70 := by
  intro a0 a1 h
  rw [f70_run, h]; rfl
theorem com1 (x : Bytes) (bk bp : Bytes) (bl : Int) (bps : List Bytes) (h : bps.length ≤ 1000) : t108_ok x bk bp bl bps = true ∧ t108_0 x bk bp bl bps = hasS bps x := by
  unfold t108_ok t108_0 t108
  rw [dT h]; exact ⟨rfl, rfl⟩
theorem go110 (xs : List Bytes) (hb : xs.length ≤ 1000) (bk bp : Bytes) (bl : Int) (bps : List Bytes) (h : bps.length ≤ 1000) : ∀ (m i : Nat), i + m = xs.length →
    f110h0 xs xs.length i bk bp bl bps = some ⟨[.dat tI (idxBy (fun o => t108_0 o bk bp bl bps) (xs.drop i) i)], [(0, .box [.dat .str bk, .dat .str bp, .dat tI bl, .dat (.slice .str) bps])]⟩ := by
  intro m
  induction m with
  | zero => intro i hi; rw [f110h0_eq, condF (dlt_not (by omega)), dnil (xs := xs) (i := i) (by omega)]; rfl
  | succ m ih =>
    intro i hi
    have hlt : i < xs.length := by omega
    rw [f110h0_eq]
    rw [condT (dT (by first | omega | (simp only [List.length_append, List.length_cons, List.length_nil, List.length_set, List.length_take, List.length_drop, List.length_map]; omega) | (simp; omega)))]
    rw [condT (dT (by first | omega | (simp only [List.length_append, List.length_cons, List.length_nil, List.length_set, List.length_take, List.length_drop, List.length_map]; omega) | (simp; omega)))]
    rw [condT (dT (by first | omega | (simp only [List.length_append, List.length_cons, List.length_nil, List.length_set, List.length_take, List.length_drop, List.length_map]; omega) | (simp; omega)))]
    rw [getN _ _ _ hlt, condT (com1 _ bk bp bl bps h).1, wsucc (by omega), ih (i + 1) (by omega), dcons hlt]
    simp only [idxBy]
    cases t108_0 xs[i] bk bp bl bps <;> rfl
theorem r110 : R110 := by
  intro a0 bk bp bl bps h
  simp only [Bool.and_eq_true, decide_eq_true_eq] at h
  rw [f110_run]
  exact go110 a0 h.1 bk bp bl bps h.2 a0.length 0 (by omega)
theorem any_congr' {α : Type} {p q : α → Bool} : ∀ (l : List α), (∀ x ∈ l, p x = q x) → l.any p = l.any q
  | [], _ => rfl
  | x :: l, h => by rw [List.any_cons, List.any_cons, h x (List.mem_cons_self ..), any_congr' l (fun y hy => h y (List.mem_cons_of_mem _ hy))]
theorem com_any (l : List Bytes) (bk bp : Bytes) (bl : Int) (bps : List Bytes) (h : bps.length ≤ 1000) (hl : l.length ≤ 1000) : t93_ok l bk bp bl bps = true ∧ t93_0 l bk bp bl bps = l.any fun o => hasS bps o := by
  unfold t93_ok t93_0 t93
  rw [dT hl, dT h]
  refine ⟨rfl, ?_⟩
  show decide (idxBy (fun o => t108_0 o bk bp bl bps) l 0 ≥ 0) = _
  rw [idxBy_any]
  exact any_congr' l fun x _ => (com1 x bk bp bl bps h).2
theorem r91 : R91 := by
  intro a0 a1 h
  simp only [Bool.and_eq_true, decide_eq_true_eq] at h
  obtain ⟨q1, q2⟩ := com_any a0.2.2.2 a1.1 a1.2.1 a1.2.2.1 a1.2.2.2 h.2 h.1
  rw [f91_run, condT q1, q2]; rfl

theorem parts_mem {l : List Item} (h : partsOk l = true) {x : Item} (hx : x ∈ l) : x.2.2.2.length ≤ 1000 := by
  have := List.all_eq_true.1 h x hx
  simpa using this
theorem parts_of {l : List Item} (h : ∀ x ∈ l, x.2.2.2.length ≤ 1000) : partsOk l = true := List.all_eq_true.2 fun x hx => by simpa using h x hx

theorem pairsF_snoc (half : Int) (y : Item) : ∀ (l : List Item) (x : Item) (i n : Int), pairsF half i (l ++ [x, y]) n = cond ((i + (l.length : Int)) != half && comF x y) (wrap .i64 (pairsF half i (l ++ [x]) n + 1)) (pairsF half i (l ++ [x]) n)
  | [], x, i, n => by
    simp only [List.nil_append, pairsF, List.length_nil]
    rw [show i + ((0 : Nat) : Int) = i by omega]
  | [a], x, i, n => by
    have := pairsF_snoc half y [] x (i + 1) (cond (i != half && comF a x) (wrap .i64 (n + 1)) n)
    simp only [List.nil_append, List.length_nil] at this
    simp only [List.cons_append, List.nil_append, List.length_cons, List.length_nil]
    rw [pairsF, this, pairsF]
    rw [show i + 1 + ((0 : Nat) : Int) = i + ((0 + 1 : Nat) : Int) by omega]
  | a :: b :: l, x, i, n => by
    have := pairsF_snoc half y (b :: l) x (i + 1) (cond (i != half && comF a b) (wrap .i64 (n + 1)) n)
    simp only [List.cons_append, List.length_cons] at this ⊢
    rw [pairsF, this, pairsF]
    rw [show i + 1 + ((l.length + 1 : Nat) : Int) = i + ((l.length + 1 + 1 : Nat) : Int) by omega]
theorem pairs_take (half : Int) (xs : List Item) (i : Nat) (h0 : 0 < i) (h : i < xs.length) :
    pairsF half 0 (xs.take (i + 1)) 0 = cond (((i - 1 : Nat) : Int) != half && comF xs[i - 1] xs[i]) (wrap .i64 (pairsF half 0 (xs.take i) 0 + 1)) (pairsF half 0 (xs.take i) 0) := by
  have e1 : xs.take (i + 1) = xs.take (i - 1) ++ [xs[i - 1], xs[i]] := by
    rw [List.take_succ_eq_append_getElem h]
    have : xs.take i = xs.take (i - 1) ++ [xs[i - 1]] := by
      have := List.take_succ_eq_append_getElem (l := xs) (i := i - 1) (by omega)
      rw [show i - 1 + 1 = i by omega] at this; exact this
    rw [this, List.append_assoc]; rfl
  have e2 : xs.take i = xs.take (i - 1) ++ [xs[i - 1]] := by
    have := List.take_succ_eq_append_getElem (l := xs) (i := i - 1) (by omega)
    rw [show i - 1 + 1 = i by omega] at this; exact this
  rw [e1, e2, pairsF_snoc, List.length_take]
  rw [show (0 : Int) + ((min (i - 1) xs.length : Nat) : Int) = ((i - 1 : Nat) : Int) by omega]

theorem go60 (p : Prgm) (hb : p.1.length ≤ 1000) (hp : partsOk p.1 = true) (a b long : Int) (z : List Bytes) : ∀ (m i : Nat) (out : List Bytes), i + m = p.1.length → out = keysI (p.1.take i) →
    f60h0 p.1 p.1.length i p.1 p.2.1 p.2.2.1 p.2.2.2.1 p.2.2.2.2 a b long (pairsF p.2.2.2.2 0 (p.1.take i) 0) z out = some ⟨[.agg [.dat tI long, .dat tI (pairsF p.2.2.2.2 0 p.1 0), .slc 0]], [(0, .arr .str (keysI p.1))]⟩ := by
  intro m
  induction m with
  | zero => intro i out hi ho; rw [f60h0_eq, condF (dlt_not (by omega)), ho, List.take_of_length_le (by omega)]
  | succ m ih =>
    intro i out hi ho
    have hlt : i < p.1.length := by omega
    have hlo : out.length ≤ i := by rw [ho]; unfold keysI; rw [List.length_map, List.length_take]; omega
    have ek : out ++ [p.1[i].1] = keysI (p.1.take (i + 1)) := by
      rw [ho]; unfold keysI; rw [List.take_succ_eq_append_getElem hlt, List.map_append]; rfl
    rw [f60h0_eq]
    rw [condT (dT (by first | omega | (simp only [List.length_append, List.length_cons, List.length_nil, List.length_set, List.length_take, List.length_drop, List.length_map]; omega) | (simp; omega)))]
    rw [condT (dT (by first | omega | (simp only [List.length_append, List.length_cons, List.length_nil, List.length_set, List.length_take, List.length_drop, List.length_map]; omega) | (simp; omega)))]
    rw [condT (dT (by first | omega | (simp only [List.length_append, List.length_cons, List.length_nil, List.length_set, List.length_take, List.length_drop, List.length_map]; omega) | (simp; omega)))]
    rw [getN _ _ _ hlt, eta_i, condT (dT (by simp; omega)), wsucc (by omega)]
    by_cases h0 : 0 < i
    · have ew : wrap .i64 ((i : Int) - 1) = ((i - 1 : Nat) : Int) := by rw [wrap_in (by omega) (by omega)]; omega
      have hlt' : i - 1 < p.1.length := by omega
      have q1 := parts_mem hp (List.getElem_mem hlt)
      have q2 := parts_mem hp (List.getElem_mem hlt')
      have := pairs_take p.2.2.2.2 p.1 i h0 hlt
      rw [condT (dT (by omega)), ew]
      have ih' := ih (i + 1) _ (by omega) ek
      rw [this] at ih'
      cases hn : ((i - 1 : Nat) : Int) != p.2.2.2.2 with
      | false => rw [hn] at ih'; rw [cond_false]; exact ih'
      | true =>
        rw [hn] at ih'
        rw [cond_true, condT (dT (by omega)), condT (dT (by omega)), getN _ _ _ hlt', condT (by rw [dT q1, dT q2]; rfl)]
        cases hc : comF p.1[i - 1] p.1[i] with
        | true => rw [hc] at ih'; exact ih'
        | false => rw [hc] at ih'; exact ih'
    · have : i = 0 := by omega
      subst this
      rw [condF (dF (by omega))]
      have ih' := ih 1 _ (by omega) ek
      have e0 : pairsF p.2.2.2.2 0 (p.1.take 1) 0 = pairsF p.2.2.2.2 0 (p.1.take 0) 0 := by
        cases p.1 with
        | nil => rfl
        | cons x l => rfl
      rw [e0] at ih'
      exact ih'
theorem r60 : R60 := by
  intro a0 h
  simp only [Bool.and_eq_true, decide_eq_true_eq] at h
  rw [f60_run, condT (dT h.1)]
  exact go60 a0 h.1 h.2 0 0 _ [] a0.1.length 0 [] (Nat.zero_add _) rfl
theorem r95 : R95 := by
  intro a0 a1 _
  rw [f95_run]
  have e : ∀ x, t111_0 x = false := fun x => by unfold t111_0 t111; simp
  rw [e, e]
  unfold cmpB
  cases bLess a0 a1 with
  | true => rfl
  | false => cases (a0 == a1) <;> rfl
theorem go66 (a b : List Bytes) (ha : a.length ≤ 1000) : ∀ (m i : Nat), i + m = a.length → i ≤ b.length →
    f66h0 a b a a.length i = some ⟨[.dat tI (cmpS (a.drop i) (b.drop i))], []⟩ := by
  intro m
  induction m with
  | zero =>
    intro i hi hb
    rw [f66h0_eq, condF (dlt_not (by omega)), dnil (xs := a) (i := i) (by omega)]
    by_cases h : i < b.length
    · rw [condT (dT (by omega)), dcons h]; rfl
    · rw [condF (dF (by omega)), dnil (xs := b) (i := i) (by omega)]; rfl
  | succ m ih =>
    intro i hi hb
    have hlt : i < a.length := by omega
    rw [f66h0_eq]
    rw [condT (dT (by first | omega | (simp only [List.length_append, List.length_cons, List.length_nil, List.length_set, List.length_take, List.length_drop, List.length_map]; omega) | (simp; omega)))]
    rw [condT (dT (by first | omega | (simp only [List.length_append, List.length_cons, List.length_nil, List.length_set, List.length_take, List.length_drop, List.length_map]; omega) | (simp; omega)))]
    rw [condT (dT (by first | omega | (simp only [List.length_append, List.length_cons, List.length_nil, List.length_set, List.length_take, List.length_drop, List.length_map]; omega) | (simp; omega)))]
    by_cases h : i < b.length
    · rw [condF (dF (by omega))]
      rw [condT (dT (by first | omega | (simp only [List.length_append, List.length_cons, List.length_nil, List.length_set, List.length_take, List.length_drop, List.length_map]; omega) | (simp; omega)))]
      rw [condT (dT (by first | omega | (simp only [List.length_append, List.length_cons, List.length_nil, List.length_set, List.length_take, List.length_drop, List.length_map]; omega) | (simp; omega)))]
      rw [getN _ _ _ hlt, getN _ _ _ h, wsucc (by omega), ih (i + 1) (by omega) (by omega), dcons hlt, dcons h, cmpS]
      show cond (!(cmpB a[i] b[i] == 0)) _ _ = _
      cases cmpB a[i] b[i] == 0 <;> rfl
    · rw [condT (dT (by omega)), dcons hlt, dnil (xs := b) (i := i) (by omega)]; rfl
theorem r66 : R66 := by
  intro a0 a1 h
  simp only [decide_eq_true_eq] at h
  rw [f66_run]
  exact go66 a0 a1 h a0.length 0 (by omega) (by omega)
theorem r61 : R61 := by
  intro a0 a1 h
  rw [f61_run]
  unfold lessR
  cases a0.1 != a1.1 with
  | true => rfl
  | false =>
    cases a0.2.1 != a1.2.1 with
    | true => rfl
    | false => simp only [cond_false]; rw [condT h]
theorem keysI_len (l : List Item) : (keysI l).length = l.length := by simp [keysI]
theorem r59 : R59 := by
  intro c1 c2 c3 c4 sm bl bp bk xs h
  have h' := h
  simp only [Bool.and_eq_true, decide_eq_true_eq] at h'
  rw [f59_run, condT h]
  unfold updF
  cases sm with
  | false => rfl
  | true =>
    rw [condT (a := cond _ _ _) (dT (by show (keysI xs).length ≤ 1000; rw [keysI_len]; exact h'.1))]
    have e : ((rankF (xs, (c1, (c2, (c3, c4))))).1, ((rankF (xs, (c1, (c2, (c3, c4))))).2.1, (rankF (xs, (c1, (c2, (c3, c4))))).2.2)) = rankF (xs, (c1, (c2, (c3, c4)))) := rfl
    rw [e]
    simp only [Bool.not_true, cond_false, Bool.false_or]
    cases lessR (rankF (xs, (c1, (c2, (c3, c4))))) (bl, (bp, bk)) <;> rfl

theorem swapL_swapL (xs : List Item) (i j : Nat) (hi : i < xs.length) (hj : j < xs.length) : swapL (swapL xs i j) i j = xs := by
  refine List.ext_getElem (by rw [swapL_len, swapL_len]) fun a h1 h2 => ?_
  rw [swapL_get _ i j a (by rw [swapL_len]; exact hi) (by rw [swapL_len]; exact hj) (by rw [swapL_len]; exact h2)]
  rw [swapL_get xs i j _ hi hj (by split; exact hi; split; exact hj; exact h2)]
  congr 1
  by_cases h3 : a = j
  · subst h3
    by_cases h4 : i = a <;> simp [h4]
  · by_cases h4 : a = i
    · subst h4; simp
    · simp [h3, h4]
theorem swapL_parts (xs : List Item) (i j : Nat) (hi : i < xs.length) (hj : j < xs.length) (h : partsOk xs = true) : partsOk (swapL xs i j) = true :=
  parts_of fun x hx => parts_mem h ((swapL_mem xs i j hi hj x).1 hx)
theorem dFT {p : Prop} [Decidable p] (h : decide p = true) : p := by simpa using h

theorem r58 : R58 := by
  intro fr xs c1 c2 c3 c4 sm bl bp bk h
  simp only [Bool.and_eq_true, decide_eq_true_eq] at h
  obtain ⟨⟨⟨⟨h1, h2⟩, h3⟩, h4⟩, h5⟩ := h
  have e : fr = (xs.length : Int) := by omega
  subst e
  rw [f58_run, condT (by simp), condT (by rw [h4, dT (p := xs.length ≤ 1000) (by omega)]; rfl)]
  rw [Int.toNat_natCast, Nat.sub_self]
  rfl

theorem go58a (c1 c2 c3 c4 : Int) (xs : List Item) (fr : Nat) (hf : fr < xs.length) (hl : xs.length - fr ≤ 1) (h5 : xs.length ≤ 5) (hp : partsOk xs = true) : ∀ (m i : Nat) (st : Bool × Rank), i + m = xs.length → fr ≤ i →
    f58ah0 fr i xs c1 c2 c3 c4 st.1 st.2.1 st.2.2.1 st.2.2.2 = some ⟨[], [(0, .arr tItem xs), (1, .box [.slc 0, .dat tI c1, .dat tI c2, .dat tI c3, .dat tI c4]),
      (2, .box [.dat .bool ((List.range' i m).foldl (fun st j => ordF (c1, (c2, (c3, c4))) (xs.length - (fr + 1)) (swapL xs fr j) (fr + 1) st) st).1]),
      (3, .box [.dat tI ((List.range' i m).foldl (fun st j => ordF (c1, (c2, (c3, c4))) (xs.length - (fr + 1)) (swapL xs fr j) (fr + 1) st) st).2.1, .dat tI ((List.range' i m).foldl (fun st j => ordF (c1, (c2, (c3, c4))) (xs.length - (fr + 1)) (swapL xs fr j) (fr + 1) st) st).2.2.1, .dat (.slice .str) ((List.range' i m).foldl (fun st j => ordF (c1, (c2, (c3, c4))) (xs.length - (fr + 1)) (swapL xs fr j) (fr + 1) st) st).2.2.2])]⟩ := by
  intro m
  induction m with
  | zero => intro i st hi hfi; rw [f58ah0_eq, condF (dlt_not (by omega))]; rfl
  | succ m ih =>
    intro i st hi hfi
    have hlt : i < xs.length := by omega
    have hlen := swapL_len xs fr i
    have hpp := swapL_parts xs fr i hf hlt hp
    have hss := swapL_swapL xs fr i hf hlt
    rw [f58ah0_eq, condT (dlt (by omega)), wsucc (i := fr) (by omega), wsucc (i := i) (by omega)]
    rw [Int.toNat_natCast i, Int.toNat_natCast fr, Int.toNat_natCast (fr + 1)]
    rw [show ((xs.set fr (xs.getD i (Tc.dflt tItem))).set i (xs.getD fr (Tc.dflt tItem))) = swapL xs fr i from rfl]
    rw [show (((swapL xs fr i).set fr ((swapL xs fr i).getD i (Tc.dflt tItem))).set i ((swapL xs fr i).getD fr (Tc.dflt tItem))) = xs from hss]
    have hg : (decide ((0 : Int) ≤ ((fr + 1 : Nat) : Int)) && decide (((fr + 1 : Nat) : Int) ≤ (List.length (swapL xs fr i) : Int)) && decide ((List.length (swapL xs fr i) : Int) - ((fr + 1 : Nat) : Int) ≤ 0) && partsOk (swapL xs fr i) && decide (List.length (swapL xs fr i) ≤ 5)) = true := by
      rw [hpp, hlen, dT (p := (0 : Int) ≤ ((fr + 1 : Nat) : Int)) (by omega), dT (p := ((fr + 1 : Nat) : Int) ≤ (xs.length : Int)) (by omega), dT (p := (xs.length : Int) - ((fr + 1 : Nat) : Int) ≤ 0) (by omega), dT h5]; rfl
    repeat (rw [condT (dT (by first | omega | (simp only [List.length_append, List.length_cons, List.length_nil, List.length_set, List.length_take, List.length_drop, List.length_map]; omega) | (simp; omega)))])
    rw [condT hg]
    repeat (rw [condT (dT (by first | omega | (simp only [List.length_append, List.length_cons, List.length_nil, List.length_set, List.length_take, List.length_drop, List.length_map]; omega) | (simp; omega)))])
    rw [hlen]
    rw [range1, List.foldl_cons]
    exact ih (i + 1) (ordF (c1, (c2, (c3, c4))) (xs.length - (fr + 1)) (swapL xs fr i) (fr + 1) st) (by omega) (by omega)
theorem r58a : R58a := by
  intro fr xs c1 c2 c3 c4 sm bl bp bk h
  simp only [Bool.and_eq_true, decide_eq_true_eq] at h
  obtain ⟨⟨⟨⟨h1, h2⟩, h3⟩, h4⟩, h5⟩ := h
  obtain ⟨n, rfl⟩ := Int.eq_ofNat_of_zero_le h1
  rw [f58a_run, Int.toNat_natCast]
  by_cases he : n = xs.length
  · subst he
    rw [condT (by simp), condT (by rw [h4, dT (p := xs.length ≤ 1000) (by omega)]; rfl), Nat.sub_self]
    rfl
  · rw [condF (by rw [beq_eq_false_iff_ne]; omega)]
    obtain ⟨k, hk⟩ : ∃ k, xs.length - n = k + 1 := ⟨xs.length - n - 1, by omega⟩
    have := go58a c1 c2 c3 c4 xs n (by omega) (by omega) h5 h4 (k + 1) n (sm, (bl, (bp, bk))) (by omega) (Nat.le_refl _)
    rw [show xs.length - (n + 1) = k by omega] at this
    rw [hk]
    exact this

theorem go58b (c1 c2 c3 c4 : Int) (xs : List Item) (fr : Nat) (hf : fr < xs.length) (hl : xs.length - fr ≤ 2) (h5 : xs.length ≤ 5) (hp : partsOk xs = true) : ∀ (m i : Nat) (st : Bool × Rank), i + m = xs.length → fr ≤ i →
    f58bh0 fr i xs c1 c2 c3 c4 st.1 st.2.1 st.2.2.1 st.2.2.2 = some ⟨[], [(0, .arr tItem xs), (1, .box [.slc 0, .dat tI c1, .dat tI c2, .dat tI c3, .dat tI c4]),
      (2, .box [.dat .bool ((List.range' i m).foldl (fun st j => ordF (c1, (c2, (c3, c4))) (xs.length - (fr + 1)) (swapL xs fr j) (fr + 1) st) st).1]),
      (3, .box [.dat tI ((List.range' i m).foldl (fun st j => ordF (c1, (c2, (c3, c4))) (xs.length - (fr + 1)) (swapL xs fr j) (fr + 1) st) st).2.1, .dat tI ((List.range' i m).foldl (fun st j => ordF (c1, (c2, (c3, c4))) (xs.length - (fr + 1)) (swapL xs fr j) (fr + 1) st) st).2.2.1, .dat (.slice .str) ((List.range' i m).foldl (fun st j => ordF (c1, (c2, (c3, c4))) (xs.length - (fr + 1)) (swapL xs fr j) (fr + 1) st) st).2.2.2])]⟩ := by
  intro m
  induction m with
  | zero => intro i st hi hfi; rw [f58bh0_eq, condF (dlt_not (by omega))]; rfl
  | succ m ih =>
    intro i st hi hfi
    have hlt : i < xs.length := by omega
    have hlen := swapL_len xs fr i
    have hpp := swapL_parts xs fr i hf hlt hp
    have hss := swapL_swapL xs fr i hf hlt
    rw [f58bh0_eq, condT (dlt (by omega)), wsucc (i := fr) (by omega), wsucc (i := i) (by omega)]
    rw [Int.toNat_natCast i, Int.toNat_natCast fr, Int.toNat_natCast (fr + 1)]
    rw [show ((xs.set fr (xs.getD i (Tc.dflt tItem))).set i (xs.getD fr (Tc.dflt tItem))) = swapL xs fr i from rfl]
    rw [show (((swapL xs fr i).set fr ((swapL xs fr i).getD i (Tc.dflt tItem))).set i ((swapL xs fr i).getD fr (Tc.dflt tItem))) = xs from hss]
    have hg : (decide ((0 : Int) ≤ ((fr + 1 : Nat) : Int)) && decide (((fr + 1 : Nat) : Int) ≤ (List.length (swapL xs fr i) : Int)) && decide ((List.length (swapL xs fr i) : Int) - ((fr + 1 : Nat) : Int) ≤ 1) && partsOk (swapL xs fr i) && decide (List.length (swapL xs fr i) ≤ 5)) = true := by
      rw [hpp, hlen, dT (p := (0 : Int) ≤ ((fr + 1 : Nat) : Int)) (by omega), dT (p := ((fr + 1 : Nat) : Int) ≤ (xs.length : Int)) (by omega), dT (p := (xs.length : Int) - ((fr + 1 : Nat) : Int) ≤ 1) (by omega), dT h5]; rfl
    repeat (rw [condT (dT (by first | omega | (simp only [List.length_append, List.length_cons, List.length_nil, List.length_set, List.length_take, List.length_drop, List.length_map]; omega) | (simp; omega)))])
    rw [condT hg]
    repeat (rw [condT (dT (by first | omega | (simp only [List.length_append, List.length_cons, List.length_nil, List.length_set, List.length_take, List.length_drop, List.length_map]; omega) | (simp; omega)))])
    rw [hlen]
    rw [range1, List.foldl_cons]
    exact ih (i + 1) (ordF (c1, (c2, (c3, c4))) (xs.length - (fr + 1)) (swapL xs fr i) (fr + 1) st) (by omega) (by omega)
theorem r58b : R58b := by
  intro fr xs c1 c2 c3 c4 sm bl bp bk h
  simp only [Bool.and_eq_true, decide_eq_true_eq] at h
  obtain ⟨⟨⟨⟨h1, h2⟩, h3⟩, h4⟩, h5⟩ := h
  obtain ⟨n, rfl⟩ := Int.eq_ofNat_of_zero_le h1
  rw [f58b_run, Int.toNat_natCast]
  by_cases he : n = xs.length
  · subst he
    rw [condT (by simp), condT (by rw [h4, dT (p := xs.length ≤ 1000) (by omega)]; rfl), Nat.sub_self]
    rfl
  · rw [condF (by rw [beq_eq_false_iff_ne]; omega)]
    obtain ⟨k, hk⟩ : ∃ k, xs.length - n = k + 1 := ⟨xs.length - n - 1, by omega⟩
    have := go58b c1 c2 c3 c4 xs n (by omega) (by omega) h5 h4 (k + 1) n (sm, (bl, (bp, bk))) (by omega) (Nat.le_refl _)
    rw [show xs.length - (n + 1) = k by omega] at this
    rw [hk]
    exact this

theorem go58c (c1 c2 c3 c4 : Int) (xs : List Item) (fr : Nat) (hf : fr < xs.length) (hl : xs.length - fr ≤ 3) (h5 : xs.length ≤ 5) (hp : partsOk xs = true) : ∀ (m i : Nat) (st : Bool × Rank), i + m = xs.length → fr ≤ i →
    f58ch0 fr i xs c1 c2 c3 c4 st.1 st.2.1 st.2.2.1 st.2.2.2 = some ⟨[], [(0, .arr tItem xs), (1, .box [.slc 0, .dat tI c1, .dat tI c2, .dat tI c3, .dat tI c4]),
      (2, .box [.dat .bool ((List.range' i m).foldl (fun st j => ordF (c1, (c2, (c3, c4))) (xs.length - (fr + 1)) (swapL xs fr j) (fr + 1) st) st).1]),
      (3, .box [.dat tI ((List.range' i m).foldl (fun st j => ordF (c1, (c2, (c3, c4))) (xs.length - (fr + 1)) (swapL xs fr j) (fr + 1) st) st).2.1, .dat tI ((List.range' i m).foldl (fun st j => ordF (c1, (c2, (c3, c4))) (xs.length - (fr + 1)) (swapL xs fr j) (fr + 1) st) st).2.2.1, .dat (.slice .str) ((List.range' i m).foldl (fun st j => ordF (c1, (c2, (c3, c4))) (xs.length - (fr + 1)) (swapL xs fr j) (fr + 1) st) st).2.2.2])]⟩ := by
  intro m
  induction m with
  | zero => intro i st hi hfi; rw [f58ch0_eq, condF (dlt_not (by omega))]; rfl
  | succ m ih =>
    intro i st hi hfi
    have hlt : i < xs.length := by omega
    have hlen := swapL_len xs fr i
    have hpp := swapL_parts xs fr i hf hlt hp
    have hss := swapL_swapL xs fr i hf hlt
    rw [f58ch0_eq, condT (dlt (by omega)), wsucc (i := fr) (by omega), wsucc (i := i) (by omega)]
    rw [Int.toNat_natCast i, Int.toNat_natCast fr, Int.toNat_natCast (fr + 1)]
    rw [show ((xs.set fr (xs.getD i (Tc.dflt tItem))).set i (xs.getD fr (Tc.dflt tItem))) = swapL xs fr i from rfl]
    rw [show (((swapL xs fr i).set fr ((swapL xs fr i).getD i (Tc.dflt tItem))).set i ((swapL xs fr i).getD fr (Tc.dflt tItem))) = xs from hss]
    have hg : (decide ((0 : Int) ≤ ((fr + 1 : Nat) : Int)) && decide (((fr + 1 : Nat) : Int) ≤ (List.length (swapL xs fr i) : Int)) && decide ((List.length (swapL xs fr i) : Int) - ((fr + 1 : Nat) : Int) ≤ 2) && partsOk (swapL xs fr i) && decide (List.length (swapL xs fr i) ≤ 5)) = true := by
      rw [hpp, hlen, dT (p := (0 : Int) ≤ ((fr + 1 : Nat) : Int)) (by omega), dT (p := ((fr + 1 : Nat) : Int) ≤ (xs.length : Int)) (by omega), dT (p := (xs.length : Int) - ((fr + 1 : Nat) : Int) ≤ 2) (by omega), dT h5]; rfl
    repeat (rw [condT (dT (by first | omega | (simp only [List.length_append, List.length_cons, List.length_nil, List.length_set, List.length_take, List.length_drop, List.length_map]; omega) | (simp; omega)))])
    rw [condT hg]
    repeat (rw [condT (dT (by first | omega | (simp only [List.length_append, List.length_cons, List.length_nil, List.length_set, List.length_take, List.length_drop, List.length_map]; omega) | (simp; omega)))])
    rw [hlen]
    rw [range1, List.foldl_cons]
    exact ih (i + 1) (ordF (c1, (c2, (c3, c4))) (xs.length - (fr + 1)) (swapL xs fr i) (fr + 1) st) (by omega) (by omega)
theorem r58c : R58c := by
  intro fr xs c1 c2 c3 c4 sm bl bp bk h
  simp only [Bool.and_eq_true, decide_eq_true_eq] at h
  obtain ⟨⟨⟨⟨h1, h2⟩, h3⟩, h4⟩, h5⟩ := h
  obtain ⟨n, rfl⟩ := Int.eq_ofNat_of_zero_le h1
  rw [f58c_run, Int.toNat_natCast]
  by_cases he : n = xs.length
  · subst he
    rw [condT (by simp), condT (by rw [h4, dT (p := xs.length ≤ 1000) (by omega)]; rfl), Nat.sub_self]
    rfl
  · rw [condF (by rw [beq_eq_false_iff_ne]; omega)]
    obtain ⟨k, hk⟩ : ∃ k, xs.length - n = k + 1 := ⟨xs.length - n - 1, by omega⟩
    have := go58c c1 c2 c3 c4 xs n (by omega) (by omega) h5 h4 (k + 1) n (sm, (bl, (bp, bk))) (by omega) (Nat.le_refl _)
    rw [show xs.length - (n + 1) = k by omega] at this
    rw [hk]
    exact this

theorem go58d (c1 c2 c3 c4 : Int) (xs : List Item) (fr : Nat) (hf : fr < xs.length) (hl : xs.length - fr ≤ 4) (h5 : xs.length ≤ 5) (hp : partsOk xs = true) : ∀ (m i : Nat) (st : Bool × Rank), i + m = xs.length → fr ≤ i →
    f58dh0 fr i xs c1 c2 c3 c4 st.1 st.2.1 st.2.2.1 st.2.2.2 = some ⟨[], [(0, .arr tItem xs), (1, .box [.slc 0, .dat tI c1, .dat tI c2, .dat tI c3, .dat tI c4]),
      (2, .box [.dat .bool ((List.range' i m).foldl (fun st j => ordF (c1, (c2, (c3, c4))) (xs.length - (fr + 1)) (swapL xs fr j) (fr + 1) st) st).1]),
      (3, .box [.dat tI ((List.range' i m).foldl (fun st j => ordF (c1, (c2, (c3, c4))) (xs.length - (fr + 1)) (swapL xs fr j) (fr + 1) st) st).2.1, .dat tI ((List.range' i m).foldl (fun st j => ordF (c1, (c2, (c3, c4))) (xs.length - (fr + 1)) (swapL xs fr j) (fr + 1) st) st).2.2.1, .dat (.slice .str) ((List.range' i m).foldl (fun st j => ordF (c1, (c2, (c3, c4))) (xs.length - (fr + 1)) (swapL xs fr j) (fr + 1) st) st).2.2.2])]⟩ := by
  intro m
  induction m with
  | zero => intro i st hi hfi; rw [f58dh0_eq, condF (dlt_not (by omega))]; rfl
  | succ m ih =>
    intro i st hi hfi
    have hlt : i < xs.length := by omega
    have hlen := swapL_len xs fr i
    have hpp := swapL_parts xs fr i hf hlt hp
    have hss := swapL_swapL xs fr i hf hlt
    rw [f58dh0_eq, condT (dlt (by omega)), wsucc (i := fr) (by omega), wsucc (i := i) (by omega)]
    rw [Int.toNat_natCast i, Int.toNat_natCast fr, Int.toNat_natCast (fr + 1)]
    rw [show ((xs.set fr (xs.getD i (Tc.dflt tItem))).set i (xs.getD fr (Tc.dflt tItem))) = swapL xs fr i from rfl]
    rw [show (((swapL xs fr i).set fr ((swapL xs fr i).getD i (Tc.dflt tItem))).set i ((swapL xs fr i).getD fr (Tc.dflt tItem))) = xs from hss]
    have hg : (decide ((0 : Int) ≤ ((fr + 1 : Nat) : Int)) && decide (((fr + 1 : Nat) : Int) ≤ (List.length (swapL xs fr i) : Int)) && decide ((List.length (swapL xs fr i) : Int) - ((fr + 1 : Nat) : Int) ≤ 3) && partsOk (swapL xs fr i) && decide (List.length (swapL xs fr i) ≤ 5)) = true := by
      rw [hpp, hlen, dT (p := (0 : Int) ≤ ((fr + 1 : Nat) : Int)) (by omega), dT (p := ((fr + 1 : Nat) : Int) ≤ (xs.length : Int)) (by omega), dT (p := (xs.length : Int) - ((fr + 1 : Nat) : Int) ≤ 3) (by omega), dT h5]; rfl
    repeat (rw [condT (dT (by first | omega | (simp only [List.length_append, List.length_cons, List.length_nil, List.length_set, List.length_take, List.length_drop, List.length_map]; omega) | (simp; omega)))])
    rw [condT hg]
    repeat (rw [condT (dT (by first | omega | (simp only [List.length_append, List.length_cons, List.length_nil, List.length_set, List.length_take, List.length_drop, List.length_map]; omega) | (simp; omega)))])
    rw [hlen]
    rw [range1, List.foldl_cons]
    exact ih (i + 1) (ordF (c1, (c2, (c3, c4))) (xs.length - (fr + 1)) (swapL xs fr i) (fr + 1) st) (by omega) (by omega)
theorem r58d : R58d := by
  intro fr xs c1 c2 c3 c4 sm bl bp bk h
  simp only [Bool.and_eq_true, decide_eq_true_eq] at h
  obtain ⟨⟨⟨⟨h1, h2⟩, h3⟩, h4⟩, h5⟩ := h
  obtain ⟨n, rfl⟩ := Int.eq_ofNat_of_zero_le h1
  rw [f58d_run, Int.toNat_natCast]
  by_cases he : n = xs.length
  · subst he
    rw [condT (by simp), condT (by rw [h4, dT (p := xs.length ≤ 1000) (by omega)]; rfl), Nat.sub_self]
    rfl
  · rw [condF (by rw [beq_eq_false_iff_ne]; omega)]
    obtain ⟨k, hk⟩ : ∃ k, xs.length - n = k + 1 := ⟨xs.length - n - 1, by omega⟩
    have := go58d c1 c2 c3 c4 xs n (by omega) (by omega) h5 h4 (k + 1) n (sm, (bl, (bp, bk))) (by omega) (Nat.le_refl _)
    rw [show xs.length - (n + 1) = k by omega] at this
    rw [hk]
    exact this

theorem go58e (c1 c2 c3 c4 : Int) (xs : List Item) (fr : Nat) (hf : fr < xs.length) (hl : xs.length - fr ≤ 5) (h5 : xs.length ≤ 5) (hp : partsOk xs = true) : ∀ (m i : Nat) (st : Bool × Rank), i + m = xs.length → fr ≤ i →
    f58eh0 fr i xs c1 c2 c3 c4 st.1 st.2.1 st.2.2.1 st.2.2.2 = some ⟨[], [(0, .arr tItem xs), (1, .box [.slc 0, .dat tI c1, .dat tI c2, .dat tI c3, .dat tI c4]),
      (2, .box [.dat .bool ((List.range' i m).foldl (fun st j => ordF (c1, (c2, (c3, c4))) (xs.length - (fr + 1)) (swapL xs fr j) (fr + 1) st) st).1]),
      (3, .box [.dat tI ((List.range' i m).foldl (fun st j => ordF (c1, (c2, (c3, c4))) (xs.length - (fr + 1)) (swapL xs fr j) (fr + 1) st) st).2.1, .dat tI ((List.range' i m).foldl (fun st j => ordF (c1, (c2, (c3, c4))) (xs.length - (fr + 1)) (swapL xs fr j) (fr + 1) st) st).2.2.1, .dat (.slice .str) ((List.range' i m).foldl (fun st j => ordF (c1, (c2, (c3, c4))) (xs.length - (fr + 1)) (swapL xs fr j) (fr + 1) st) st).2.2.2])]⟩ := by
  intro m
  induction m with
  | zero => intro i st hi hfi; rw [f58eh0_eq, condF (dlt_not (by omega))]; rfl
  | succ m ih =>
    intro i st hi hfi
    have hlt : i < xs.length := by omega
    have hlen := swapL_len xs fr i
    have hpp := swapL_parts xs fr i hf hlt hp
    have hss := swapL_swapL xs fr i hf hlt
    rw [f58eh0_eq, condT (dlt (by omega)), wsucc (i := fr) (by omega), wsucc (i := i) (by omega)]
    rw [Int.toNat_natCast i, Int.toNat_natCast fr, Int.toNat_natCast (fr + 1)]
    rw [show ((xs.set fr (xs.getD i (Tc.dflt tItem))).set i (xs.getD fr (Tc.dflt tItem))) = swapL xs fr i from rfl]
    rw [show (((swapL xs fr i).set fr ((swapL xs fr i).getD i (Tc.dflt tItem))).set i ((swapL xs fr i).getD fr (Tc.dflt tItem))) = xs from hss]
    have hg : (decide ((0 : Int) ≤ ((fr + 1 : Nat) : Int)) && decide (((fr + 1 : Nat) : Int) ≤ (List.length (swapL xs fr i) : Int)) && decide ((List.length (swapL xs fr i) : Int) - ((fr + 1 : Nat) : Int) ≤ 4) && partsOk (swapL xs fr i) && decide (List.length (swapL xs fr i) ≤ 5)) = true := by
      rw [hpp, hlen, dT (p := (0 : Int) ≤ ((fr + 1 : Nat) : Int)) (by omega), dT (p := ((fr + 1 : Nat) : Int) ≤ (xs.length : Int)) (by omega), dT (p := (xs.length : Int) - ((fr + 1 : Nat) : Int) ≤ 4) (by omega), dT h5]; rfl
    repeat (rw [condT (dT (by first | omega | (simp only [List.length_append, List.length_cons, List.length_nil, List.length_set, List.length_take, List.length_drop, List.length_map]; omega) | (simp; omega)))])
    rw [condT hg]
    repeat (rw [condT (dT (by first | omega | (simp only [List.length_append, List.length_cons, List.length_nil, List.length_set, List.length_take, List.length_drop, List.length_map]; omega) | (simp; omega)))])
    rw [hlen]
    rw [range1, List.foldl_cons]
    exact ih (i + 1) (ordF (c1, (c2, (c3, c4))) (xs.length - (fr + 1)) (swapL xs fr i) (fr + 1) st) (by omega) (by omega)
theorem r58e : R58e := by
  intro fr xs c1 c2 c3 c4 sm bl bp bk h
  simp only [Bool.and_eq_true, decide_eq_true_eq] at h
  obtain ⟨⟨⟨⟨h1, h2⟩, h3⟩, h4⟩, h5⟩ := h
  obtain ⟨n, rfl⟩ := Int.eq_ofNat_of_zero_le h1
  rw [f58e_run, Int.toNat_natCast]
  by_cases he : n = xs.length
  · subst he
    rw [condT (by simp), condT (by rw [h4, dT (p := xs.length ≤ 1000) (by omega)]; rfl), Nat.sub_self]
    rfl
  · rw [condF (by rw [beq_eq_false_iff_ne]; omega)]
    obtain ⟨k, hk⟩ : ∃ k, xs.length - n = k + 1 := ⟨xs.length - n - 1, by omega⟩
    have := go58e c1 c2 c3 c4 xs n (by omega) (by omega) h5 h4 (k + 1) n (sm, (bl, (bp, bk))) (by omega) (Nat.le_refl _)
    rw [show xs.length - (n + 1) = k by omega] at this
    rw [hk]
    exact this

theorem part_len (key : Bytes → Bool) (l : List Bytes) (h : partsF key l = 0) : l.length ≤ 12 := by
  unfold partsF at h
  cases h1 : (l.length : Int) == 0 with
  | true => rw [h1] at h; cases h
  | false =>
    rw [h1] at h
    cases h2 : decide ((l.length : Int) > 12) with
    | true => rw [h2] at h; cases h
    | false => have : ¬ (l.length : Int) > 12 := by simpa using h2
               omega
theorem items_ok (key : Bytes → Bool) : ∀ (l pre : List Item), itemsGo key pre l = 0 → (∀ a ∈ pre, ∀ x ∈ l, a.1 ≠ x.1) ∧ List.Pairwise (fun a b : Item => a.1 ≠ b.1) l ∧ ∀ x ∈ l, x.2.2.2.length ≤ 12
  | [], pre, _ => ⟨fun _ _ _ h => (by cases h), List.Pairwise.nil, fun _ h => (by cases h)⟩
  | x :: l, pre, h => by
    rw [itemsGo] at h
    cases h1 : !key x.1 || !key x.2.1 with
    | true => rw [h1] at h; cases h
    | false =>
      rw [h1, cond_false] at h
      cases h2 : pre.any fun o => o.1 == x.1 with
      | true => rw [h2] at h; cases h
      | false =>
        rw [h2, cond_false] at h
        cases h3 : outside x.2.2.1 1 86400000 with
        | true => rw [h3] at h; cases h
        | false =>
          rw [h3, cond_false] at h
          cases h4 : partsF key x.2.2.2 != 0 with
          | true => rw [h4, cond_true] at h; rw [h] at h4; cases h4
          | false =>
            rw [h4, cond_false] at h
            obtain ⟨g1, g2, g3⟩ := items_ok key l (pre ++ [x]) h
            have hp : partsF key x.2.2.2 = 0 := by
              have : (!(partsF key x.2.2.2 == 0)) = false := h4
              simpa using this
            refine ⟨fun a ha y hy => ?_, List.Pairwise.cons (fun y hy => g1 x (List.mem_append_right _ (List.mem_singleton.2 rfl)) y hy) g2, fun y hy => ?_⟩
            · rcases List.mem_cons.1 hy with rfl | hy
              · have := List.any_eq_false.1 h2 a ha
                simpa using this
              · exact g1 a (List.mem_append_left _ ha) y hy
            · rcases List.mem_cons.1 hy with rfl | hy
              · exact part_len key _ hp
              · exact g3 y hy
theorem prog_ok {p : Prgm} (h : checkProg keyR p = 0) : KN p.1 ∧ partsOk p.1 = true := by
  unfold checkProg at h
  have hc : checkItems keyR p.1 = 0 := by
    cases h1 : checkItems keyR p.1 != 0 with
    | true => rw [h1, cond_true] at h; exact h
    | false => have : (!(checkItems keyR p.1 == 0)) = false := h1
               simpa using this
  unfold checkItems at hc
  cases h2 : decide ((p.1.length : Int) > 60) with
  | true => rw [h2] at hc; cases hc
  | false =>
    rw [h2, cond_false] at hc
    obtain ⟨_, g2, g3⟩ := items_ok keyR p.1 [] hc
    refine ⟨fun a b ha hb e => ?_, parts_of fun x hx => by have := g3 x hx; omega⟩
    rw [List.pairwise_iff_getElem] at g2
    by_cases hab : a = b
    · exact hab
    · rcases Nat.lt_or_gt_of_ne hab with hlt | hgt
      · exact absurd e (g2 a b ha hb hlt)
      · exact absurd e.symm (g2 b a hb ha hgt)
theorem r21 : R21 := by
  intro a0 h
  simp only [decide_eq_true_eq] at h
  rw [f21_run, eta_pr]
  unfold ordR
  cases hc : checkProg isKey a0 != 0 with
  | true => rfl
  | false =>
    have hk : checkProg keyR a0 = 0 := by
      rw [isKey_fun] at hc
      have : (!(checkProg keyR a0 == 0)) = false := hc
      simpa using this
    have hp := (prog_ok hk).2
    rw [cond_false, condF (dF (by omega)), condT (dT (by omega)), condT (by rw [hp, dT (p := (0 : Int) ≤ 0) (by omega), dT (p := (0 : Int) ≤ (a0.1.length : Int)) (by omega), dT (p := (a0.1.length : Int) - 0 ≤ 5) (by omega), dT h]; rfl)]
    rfl

end Go.Ev.M

set_option linter.unusedVariables false
set_option linter.unusedSimpArgs false
namespace Go.Ev.M
open Go Go.Ev Go.Proofs
theorem sh1 (x : Bytes) (its : List Item) (c1 c2 c3 c4 : Int) (i : Nat) (h : i + 1 < its.length) (hb : its.length ≤ 1000) (hp : partsOk its = true) : t94_ok x its c1 c2 c3 c4 i = true ∧ t94_0 x its c1 c2 c3 c4 i = hasS its[i + 1].2.2.2 x := by
  unfold t94_ok t94_0 t94
  rw [wsucc (by omega), dT (p := (0 : Int) ≤ ((i + 1 : Nat) : Int)) (by omega), dT (p := ((i + 1 : Nat) : Int) < (its.length : Int)) (by omega), getN _ _ _ h, dT (parts_mem hp (List.getElem_mem h))]
  exact ⟨rfl, rfl⟩
theorem go110a (xs : List Bytes) (hx : xs.length ≤ 1000) (its : List Item) (c1 c2 c3 c4 : Int) (k : Nat) (h : k + 1 < its.length) (hb : its.length ≤ 1000) (hp : partsOk its = true) : ∀ (m i : Nat), i + m = xs.length →
    f110ah0 xs xs.length i its c1 c2 c3 c4 k = some ⟨[.dat tI (idxBy (fun o => t94_0 o its c1 c2 c3 c4 k) (xs.drop i) i)], [(0, .box [.dat (.slice tItem) its, .dat tI c1, .dat tI c2, .dat tI c3, .dat tI c4]), (1, .box [.dat tI k])]⟩ := by
  intro m
  induction m with
  | zero => intro i hi; rw [f110ah0_eq, condF (dlt_not (by omega)), dnil (xs := xs) (i := i) (by omega)]; rfl
  | succ m ih =>
    intro i hi
    have hlt : i < xs.length := by omega
    rw [f110ah0_eq]
    rw [condT (dT (by first | omega | (simp only [List.length_append, List.length_cons, List.length_nil, List.length_set, List.length_take, List.length_drop, List.length_map]; omega) | (simp; omega)))]
    rw [condT (dT (by first | omega | (simp only [List.length_append, List.length_cons, List.length_nil, List.length_set, List.length_take, List.length_drop, List.length_map]; omega) | (simp; omega)))]
    rw [condT (dT (by first | omega | (simp only [List.length_append, List.length_cons, List.length_nil, List.length_set, List.length_take, List.length_drop, List.length_map]; omega) | (simp; omega)))]
    rw [getN _ _ _ hlt, condT (sh1 _ its c1 c2 c3 c4 k h hb hp).1, wsucc (by omega), ih (i + 1) (by omega), dcons hlt]
    simp only [idxBy]
    cases t94_0 xs[i] its c1 c2 c3 c4 k <;> rfl
theorem r110a : R110a := by
  intro a0 its c1 c2 c3 c4 i h
  simp only [Bool.and_eq_true, decide_eq_true_eq] at h
  obtain ⟨⟨⟨⟨h1, hb⟩, h2⟩, h3⟩, h4⟩ := h
  obtain ⟨k, rfl⟩ := Int.eq_ofNat_of_zero_le h3
  rw [f110a_run]
  exact go110a a0 h1 its c1 c2 c3 c4 k (by omega) hb h2 a0.length 0 (by omega)
theorem sh_any (l : List Bytes) (hl : l.length ≤ 1000) (its : List Item) (c1 c2 c3 c4 : Int) (i : Nat) (h : i + 1 < its.length) (hb : its.length ≤ 1000) (hp : partsOk its = true) :
    t93a_ok l its c1 c2 c3 c4 i = true ∧ t93a_0 l its c1 c2 c3 c4 i = l.any fun o => hasS its[i + 1].2.2.2 o := by
  unfold t93a_ok t93a_0 t93a
  rw [dT hl, dT hb, hp, dT (p := (0 : Int) ≤ (i : Int)) (by omega), dT (p := (i : Int) + 1 < (its.length : Int)) (by omega)]
  refine ⟨rfl, ?_⟩
  show decide (idxBy (fun o => t94_0 o its c1 c2 c3 c4 i) l 0 ≥ 0) = _
  rw [idxBy_any]
  exact any_congr' l fun x _ => (sh1 x its c1 c2 c3 c4 i h hb hp).2
theorem go65 (xs : List Item) (hb : xs.length ≤ 1000) (hp : partsOk xs = true) (a b c half : Int) : ∀ (m i : Nat) (n : Int), i + m = xs.length →
    f65h0 n xs a b c half i = some ⟨[.dat tI (pairsF half i (xs.drop i) n)], []⟩ := by
  intro m
  induction m with
  | zero => intro i n hi; rw [f65h0_eq, wsucc (by omega), condF (dlt_not (by omega)), dnil (xs := xs) (i := i) (by omega)]; rfl
  | succ m ih =>
    intro i n hi
    have hlt : i < xs.length := by omega
    rw [f65h0_eq, wsucc (by omega)]
    by_cases h : i + 1 < xs.length
    · rw [condT (dlt h), dcons hlt, dcons h, pairsF]
      have ih1 := ih (i + 1) n (by omega)
      have ih2 := ih (i + 1) (wrap .i64 (n + 1)) (by omega)
      rw [dcons h] at ih1 ih2
      cases hn : (i : Int) != half with
      | false => exact ih1
      | true =>
        obtain ⟨q1, q2⟩ := sh_any xs[i].2.2.2 (parts_mem hp (List.getElem_mem hlt)) xs a b c half i h hb hp
        rw [cond_true, condT (dT (by omega)), condT (dT (by omega)), getN _ _ _ hlt, condT q1, q2]
        show cond (comF xs[i] xs[i + 1]) _ _ = _
        cases comF xs[i] xs[i + 1] with
        | true => exact ih2
        | false => exact ih1
    · rw [condF (dlt_not (by omega)), dcons hlt, dnil (xs := xs) (i := i + 1) (by omega)]; rfl
theorem r65 : R65 := by
  intro a0 h
  simp only [Bool.and_eq_true, decide_eq_true_eq] at h
  rw [f65_run]
  exact go65 a0.1 h.1 h.2 _ _ _ _ a0.1.length 0 0 (Nat.zero_add _)
theorem r63 : R63 := by
  intro a0 a1 h
  simp only [Bool.and_eq_true, decide_eq_true_eq] at h
  obtain ⟨⟨⟨h1, h2⟩, h3⟩, h4⟩ := h
  rw [f63_run]
  simp only [eta_pr]
  rw [condT (dT h1), condT (by rw [dT h1, h2]; rfl), condT (dT h3), condT (by rw [dT h3, h4]; rfl), condT (dT (by simp))]
  unfold betR
  cases cmpGo [longR a0, pairsF a0.2.2.2.2 0 a0.1 0] [longR a1, pairsF a1.2.2.2.2 0 a1.1 0] != 0 with
  | true => rfl
  | false =>
    rw [cond_false, condT (dT h1), condT (dT h3), condT (dT (by rw [List.length_map]; exact h1))]; rfl

def outT (its : List Item) (c1 c2 c3 c4 : Int) (S : Bool × Prgm) : Fr := ⟨[], [(0, .box [.dat (.slice tItem) its, .dat tI c1, .dat tI c2, .dat tI c3, .dat tI c4]), (1, .box [.dat .bool S.1]), (2, .box [.clos 63 []]), (3, .box [.dat (.slice tItem) S.2.1, .dat tI S.2.2.1, .dat tI S.2.2.2.1, .dat tI S.2.2.2.2.1, .dat tI S.2.2.2.2.2]), (4, .box [.clos 68 [.ptr 0 0, .ptr 1 0, .ptr 2 0, .ptr 3 0, .ptr 4 0]])]⟩
def okQ (st : Bool × Prgm) : Prop := st.2.1.length ≤ 1000 ∧ partsOk st.2.1 = true
theorem foldl_inv {α β : Type} {P : β → Prop} {f : β → α → β} : ∀ (l : List α) (b : β), (∀ b x, x ∈ l → P b → P (f b x)) → P b → P (l.foldl f b)
  | [], b, _, h => h
  | x :: l, b, hf, h => by
    rw [List.foldl_cons]
    exact foldl_inv l _ (fun b y hy => hf b y (List.mem_cons_of_mem _ hy)) (hf b x (List.mem_cons_self ..) h)
theorem parts_snoc {l : List Item} {x : Item} (h : partsOk l = true) (hx : x.2.2.2.length ≤ 1000) : partsOk (l ++ [x]) = true :=
  parts_of fun y hy => by
    rcases List.mem_append.1 hy with hy | hy
    · exact parts_mem h hy
    · rw [List.mem_singleton.1 hy]; exact hx
theorem tryF_ok (its : List Item) (c : Int × Int × Int × Int) (hp : partsOk its = true) : ∀ (m : Nat) (l : List Item) (st : Bool × Prgm), l.length + m ≤ 5 → partsOk l = true → okQ st → okQ (tryF its c m l st)
  | 0, l, st, h1, h2, h3 => by
    unfold tryF updQ
    cases (!st.1 || betR (l, c) st.2) with
    | true => exact ⟨by show l.length ≤ 1000; omega, h2⟩
    | false => exact h3
  | m + 1, l, st, h1, h2, h3 => by
    unfold tryF
    refine foldl_inv its st (fun b x hx hb => ?_) h3
    cases l.any fun o => o.1 == x.1 with
    | true => exact hb
    | false => exact tryF_ok its c hp m (l ++ [x]) b (by rw [List.length_append, List.length_singleton]; omega) (parts_snoc h2 (parts_mem hp hx)) hb
theorem lt_any (p : Item → Bool) (l : List Item) : decide (idxBy p l 0 < 0) = !l.any p := by
  rw [← idxBy_any p l 0]
  by_cases h : idxBy p l 0 < 0
  · rw [dT h, dF (p := idxBy p l 0 ≥ 0) (by omega)]; rfl
  · rw [dF h, dT (p := idxBy p l 0 ≥ 0) (by omega)]; rfl
theorem upd_case (a0 its : List Item) (c1 c2 c3 c4 : Int) (sm : Bool) (q : Prgm) (g : Bool) (hg : g = true) :
    cond (!sm) (some (outT its c1 c2 c3 c4 (true, (a0, (c1, (c2, (c3, c4))))))) (cond g (cond (betR (a0, (c1, (c2, (c3, c4)))) q) (some (outT its c1 c2 c3 c4 (true, (a0, (c1, (c2, (c3, c4))))))) (some (outT its c1 c2 c3 c4 (sm, q)))) none) =
      some (outT its c1 c2 c3 c4 (updQ (a0, (c1, (c2, (c3, c4)))) (sm, q))) := by
  subst hg
  unfold updQ
  cases sm with
  | false => rfl
  | true =>
    show cond (betR (a0, (c1, (c2, (c3, c4)))) q) _ _ = some (outT its c1 c2 c3 c4 (cond (betR (a0, (c1, (c2, (c3, c4)))) q) _ _))
    cases betR (a0, (c1, (c2, (c3, c4)))) q <;> rfl

theorem r68 : R68 := by
  intro a0 its c1 c2 c3 c4 sm qi q1 q2 q3 q4 h
  simp only [Bool.and_eq_true, decide_eq_true_eq] at h
  obtain ⟨⟨⟨⟨⟨⟨h5, hl⟩, hd⟩, hp⟩, hq⟩, hi⟩, hip⟩ := h
  have e : a0.length = its.length := by omega
  rw [f68_run, condT (by rw [beq_iff_eq]; omega)]
  rw [show its.length - a0.length = 0 by omega]
  exact upd_case a0 its c1 c2 c3 c4 sm (qi, (q1, (q2, (q3, q4)))) _ (by rw [dT (p := a0.length ≤ 1000) (by omega), hq, dT hi, hip]; rfl)

theorem go68a (its hv : List Item) (c1 c2 c3 c4 : Int) (h5 : its.length ≤ 5) (hh : hv.length < its.length) (hl : its.length - hv.length ≤ 1) (hp : partsOk its = true) (hq : partsOk hv = true) : ∀ (m i : Nat) (st : Bool × Prgm), i + m = its.length → okQ st →
    f68ah0 hv its its.length i its c1 c2 c3 c4 st.1 st.2.1 st.2.2.1 st.2.2.2.1 st.2.2.2.2.1 st.2.2.2.2.2 =
      some (outT its c1 c2 c3 c4 ((its.drop i).foldl (fun st x => cond (hv.any fun o => o.1 == x.1) st (tryF its (c1, (c2, (c3, c4))) (its.length - (hv.length + 1)) (hv ++ [x]) st)) st)) := by
  intro m
  induction m with
  | zero => intro i st hi hok; rw [f68ah0_eq, condF (dlt_not (by omega)), dnil (xs := its) (i := i) (by omega)]; rfl
  | succ m ih =>
    intro i st hi hok
    have hlt : i < its.length := by omega
    have hx := parts_mem hp (List.getElem_mem hlt)
    obtain ⟨q1, q2⟩ := ok55 hv its[i].1 (by omega)
    have q3 : decide (idxBy (fun o => t90_0 o its[i].1) hv 0 < 0) = !(hv.any fun o => o.1 == its[i].1) := lt_any _ hv
    rw [f68ah0_eq]
    rw [condT (dT (by first | omega | (simp only [List.length_append, List.length_cons, List.length_nil, List.length_set, List.length_take, List.length_drop, List.length_map]; omega) | (simp; omega)))]
    rw [condT (dT (by first | omega | (simp only [List.length_append, List.length_cons, List.length_nil, List.length_set, List.length_take, List.length_drop, List.length_map]; omega) | (simp; omega)))]
    rw [condT (dT (by first | omega | (simp only [List.length_append, List.length_cons, List.length_nil, List.length_set, List.length_take, List.length_drop, List.length_map]; omega) | (simp; omega)))]
    rw [getN _ _ _ hlt, condT q1, q2, q3, eta_i, wsucc (by omega), dcons hlt, List.foldl_cons]
    cases ha : hv.any fun o => o.1 == its[i].1 with
    | true => exact ih (i + 1) st (by omega) hok
    | false =>
      have el : (hv ++ [its[i]]).length = hv.length + 1 := by simp
      have hg : (decide (its.length ≤ 5) && decide ((hv ++ [its[i]]).length ≤ its.length) && decide (its.length - (hv ++ [its[i]]).length ≤ 0) && partsOk its && partsOk (hv ++ [its[i]]) && decide (st.2.1.length ≤ 1000) && partsOk st.2.1) = true := by
        rw [el, dT h5, dT (p := hv.length + 1 ≤ its.length) (by omega), dT (p := its.length - (hv.length + 1) ≤ 0) (by omega), hp, parts_snoc hq hx, dT hok.1, hok.2]; rfl
      rw [Bool.not_false, cond_true, condT (dT (by omega)), condT (dT (by simp; omega)), condT hg, el]
      exact ih (i + 1) _ (by omega) (tryF_ok its _ hp _ _ st (by rw [el]; omega) (parts_snoc hq hx) hok)
theorem r68a : R68a := by
  intro a0 its c1 c2 c3 c4 sm qi q1 q2 q3 q4 h
  simp only [Bool.and_eq_true, decide_eq_true_eq] at h
  obtain ⟨⟨⟨⟨⟨⟨h5, hl⟩, hd⟩, hp⟩, hq⟩, hi⟩, hip⟩ := h
  rw [f68a_run]
  by_cases e : a0.length = its.length
  · rw [condT (by rw [beq_iff_eq]; omega), show its.length - a0.length = 0 by omega]
    exact upd_case a0 its c1 c2 c3 c4 sm (qi, (q1, (q2, (q3, q4)))) _ (by rw [dT (p := a0.length ≤ 1000) (by omega), hq, dT hi, hip]; rfl)
  · rw [condF (by rw [beq_eq_false_iff_ne]; omega)]
    obtain ⟨k, hk⟩ : ∃ k, its.length - a0.length = k + 1 := ⟨its.length - a0.length - 1, by omega⟩
    have := go68a its a0 c1 c2 c3 c4 h5 (by omega) (by omega) hp hq its.length 0 (sm, (qi, (q1, (q2, (q3, q4))))) (Nat.zero_add _) ⟨hi, hip⟩
    rw [show its.length - (a0.length + 1) = k by omega] at this
    rw [hk]
    exact this

theorem go68b (its hv : List Item) (c1 c2 c3 c4 : Int) (h5 : its.length ≤ 5) (hh : hv.length < its.length) (hl : its.length - hv.length ≤ 2) (hp : partsOk its = true) (hq : partsOk hv = true) : ∀ (m i : Nat) (st : Bool × Prgm), i + m = its.length → okQ st →
    f68bh0 hv its its.length i its c1 c2 c3 c4 st.1 st.2.1 st.2.2.1 st.2.2.2.1 st.2.2.2.2.1 st.2.2.2.2.2 =
      some (outT its c1 c2 c3 c4 ((its.drop i).foldl (fun st x => cond (hv.any fun o => o.1 == x.1) st (tryF its (c1, (c2, (c3, c4))) (its.length - (hv.length + 1)) (hv ++ [x]) st)) st)) := by
  intro m
  induction m with
  | zero => intro i st hi hok; rw [f68bh0_eq, condF (dlt_not (by omega)), dnil (xs := its) (i := i) (by omega)]; rfl
  | succ m ih =>
    intro i st hi hok
    have hlt : i < its.length := by omega
    have hx := parts_mem hp (List.getElem_mem hlt)
    obtain ⟨q1, q2⟩ := ok55 hv its[i].1 (by omega)
    have q3 : decide (idxBy (fun o => t90_0 o its[i].1) hv 0 < 0) = !(hv.any fun o => o.1 == its[i].1) := lt_any _ hv
    rw [f68bh0_eq]
    rw [condT (dT (by first | omega | (simp only [List.length_append, List.length_cons, List.length_nil, List.length_set, List.length_take, List.length_drop, List.length_map]; omega) | (simp; omega)))]
    rw [condT (dT (by first | omega | (simp only [List.length_append, List.length_cons, List.length_nil, List.length_set, List.length_take, List.length_drop, List.length_map]; omega) | (simp; omega)))]
    rw [condT (dT (by first | omega | (simp only [List.length_append, List.length_cons, List.length_nil, List.length_set, List.length_take, List.length_drop, List.length_map]; omega) | (simp; omega)))]
    rw [getN _ _ _ hlt, condT q1, q2, q3, eta_i, wsucc (by omega), dcons hlt, List.foldl_cons]
    cases ha : hv.any fun o => o.1 == its[i].1 with
    | true => exact ih (i + 1) st (by omega) hok
    | false =>
      have el : (hv ++ [its[i]]).length = hv.length + 1 := by simp
      have hg : (decide (its.length ≤ 5) && decide ((hv ++ [its[i]]).length ≤ its.length) && decide (its.length - (hv ++ [its[i]]).length ≤ 1) && partsOk its && partsOk (hv ++ [its[i]]) && decide (st.2.1.length ≤ 1000) && partsOk st.2.1) = true := by
        rw [el, dT h5, dT (p := hv.length + 1 ≤ its.length) (by omega), dT (p := its.length - (hv.length + 1) ≤ 1) (by omega), hp, parts_snoc hq hx, dT hok.1, hok.2]; rfl
      rw [Bool.not_false, cond_true, condT (dT (by omega)), condT (dT (by simp; omega)), condT hg, el]
      exact ih (i + 1) _ (by omega) (tryF_ok its _ hp _ _ st (by rw [el]; omega) (parts_snoc hq hx) hok)
theorem r68b : R68b := by
  intro a0 its c1 c2 c3 c4 sm qi q1 q2 q3 q4 h
  simp only [Bool.and_eq_true, decide_eq_true_eq] at h
  obtain ⟨⟨⟨⟨⟨⟨h5, hl⟩, hd⟩, hp⟩, hq⟩, hi⟩, hip⟩ := h
  rw [f68b_run]
  by_cases e : a0.length = its.length
  · rw [condT (by rw [beq_iff_eq]; omega), show its.length - a0.length = 0 by omega]
    exact upd_case a0 its c1 c2 c3 c4 sm (qi, (q1, (q2, (q3, q4)))) _ (by rw [dT (p := a0.length ≤ 1000) (by omega), hq, dT hi, hip]; rfl)
  · rw [condF (by rw [beq_eq_false_iff_ne]; omega)]
    obtain ⟨k, hk⟩ : ∃ k, its.length - a0.length = k + 1 := ⟨its.length - a0.length - 1, by omega⟩
    have := go68b its a0 c1 c2 c3 c4 h5 (by omega) (by omega) hp hq its.length 0 (sm, (qi, (q1, (q2, (q3, q4))))) (Nat.zero_add _) ⟨hi, hip⟩
    rw [show its.length - (a0.length + 1) = k by omega] at this
    rw [hk]
    exact this

theorem go68c (its hv : List Item) (c1 c2 c3 c4 : Int) (h5 : its.length ≤ 5) (hh : hv.length < its.length) (hl : its.length - hv.length ≤ 3) (hp : partsOk its = true) (hq : partsOk hv = true) : ∀ (m i : Nat) (st : Bool × Prgm), i + m = its.length → okQ st →
    f68ch0 hv its its.length i its c1 c2 c3 c4 st.1 st.2.1 st.2.2.1 st.2.2.2.1 st.2.2.2.2.1 st.2.2.2.2.2 =
      some (outT its c1 c2 c3 c4 ((its.drop i).foldl (fun st x => cond (hv.any fun o => o.1 == x.1) st (tryF its (c1, (c2, (c3, c4))) (its.length - (hv.length + 1)) (hv ++ [x]) st)) st)) := by
  intro m
  induction m with
  | zero => intro i st hi hok; rw [f68ch0_eq, condF (dlt_not (by omega)), dnil (xs := its) (i := i) (by omega)]; rfl
  | succ m ih =>
    intro i st hi hok
    have hlt : i < its.length := by omega
    have hx := parts_mem hp (List.getElem_mem hlt)
    obtain ⟨q1, q2⟩ := ok55 hv its[i].1 (by omega)
    have q3 : decide (idxBy (fun o => t90_0 o its[i].1) hv 0 < 0) = !(hv.any fun o => o.1 == its[i].1) := lt_any _ hv
    rw [f68ch0_eq]
    rw [condT (dT (by first | omega | (simp only [List.length_append, List.length_cons, List.length_nil, List.length_set, List.length_take, List.length_drop, List.length_map]; omega) | (simp; omega)))]
    rw [condT (dT (by first | omega | (simp only [List.length_append, List.length_cons, List.length_nil, List.length_set, List.length_take, List.length_drop, List.length_map]; omega) | (simp; omega)))]
    rw [condT (dT (by first | omega | (simp only [List.length_append, List.length_cons, List.length_nil, List.length_set, List.length_take, List.length_drop, List.length_map]; omega) | (simp; omega)))]
    rw [getN _ _ _ hlt, condT q1, q2, q3, eta_i, wsucc (by omega), dcons hlt, List.foldl_cons]
    cases ha : hv.any fun o => o.1 == its[i].1 with
    | true => exact ih (i + 1) st (by omega) hok
    | false =>
      have el : (hv ++ [its[i]]).length = hv.length + 1 := by simp
      have hg : (decide (its.length ≤ 5) && decide ((hv ++ [its[i]]).length ≤ its.length) && decide (its.length - (hv ++ [its[i]]).length ≤ 2) && partsOk its && partsOk (hv ++ [its[i]]) && decide (st.2.1.length ≤ 1000) && partsOk st.2.1) = true := by
        rw [el, dT h5, dT (p := hv.length + 1 ≤ its.length) (by omega), dT (p := its.length - (hv.length + 1) ≤ 2) (by omega), hp, parts_snoc hq hx, dT hok.1, hok.2]; rfl
      rw [Bool.not_false, cond_true, condT (dT (by omega)), condT (dT (by simp; omega)), condT hg, el]
      exact ih (i + 1) _ (by omega) (tryF_ok its _ hp _ _ st (by rw [el]; omega) (parts_snoc hq hx) hok)
theorem r68c : R68c := by
  intro a0 its c1 c2 c3 c4 sm qi q1 q2 q3 q4 h
  simp only [Bool.and_eq_true, decide_eq_true_eq] at h
  obtain ⟨⟨⟨⟨⟨⟨h5, hl⟩, hd⟩, hp⟩, hq⟩, hi⟩, hip⟩ := h
  rw [f68c_run]
  by_cases e : a0.length = its.length
  · rw [condT (by rw [beq_iff_eq]; omega), show its.length - a0.length = 0 by omega]
    exact upd_case a0 its c1 c2 c3 c4 sm (qi, (q1, (q2, (q3, q4)))) _ (by rw [dT (p := a0.length ≤ 1000) (by omega), hq, dT hi, hip]; rfl)
  · rw [condF (by rw [beq_eq_false_iff_ne]; omega)]
    obtain ⟨k, hk⟩ : ∃ k, its.length - a0.length = k + 1 := ⟨its.length - a0.length - 1, by omega⟩
    have := go68c its a0 c1 c2 c3 c4 h5 (by omega) (by omega) hp hq its.length 0 (sm, (qi, (q1, (q2, (q3, q4))))) (Nat.zero_add _) ⟨hi, hip⟩
    rw [show its.length - (a0.length + 1) = k by omega] at this
    rw [hk]
    exact this

theorem go68d (its hv : List Item) (c1 c2 c3 c4 : Int) (h5 : its.length ≤ 5) (hh : hv.length < its.length) (hl : its.length - hv.length ≤ 4) (hp : partsOk its = true) (hq : partsOk hv = true) : ∀ (m i : Nat) (st : Bool × Prgm), i + m = its.length → okQ st →
    f68dh0 hv its its.length i its c1 c2 c3 c4 st.1 st.2.1 st.2.2.1 st.2.2.2.1 st.2.2.2.2.1 st.2.2.2.2.2 =
      some (outT its c1 c2 c3 c4 ((its.drop i).foldl (fun st x => cond (hv.any fun o => o.1 == x.1) st (tryF its (c1, (c2, (c3, c4))) (its.length - (hv.length + 1)) (hv ++ [x]) st)) st)) := by
  intro m
  induction m with
  | zero => intro i st hi hok; rw [f68dh0_eq, condF (dlt_not (by omega)), dnil (xs := its) (i := i) (by omega)]; rfl
  | succ m ih =>
    intro i st hi hok
    have hlt : i < its.length := by omega
    have hx := parts_mem hp (List.getElem_mem hlt)
    obtain ⟨q1, q2⟩ := ok55 hv its[i].1 (by omega)
    have q3 : decide (idxBy (fun o => t90_0 o its[i].1) hv 0 < 0) = !(hv.any fun o => o.1 == its[i].1) := lt_any _ hv
    rw [f68dh0_eq]
    rw [condT (dT (by first | omega | (simp only [List.length_append, List.length_cons, List.length_nil, List.length_set, List.length_take, List.length_drop, List.length_map]; omega) | (simp; omega)))]
    rw [condT (dT (by first | omega | (simp only [List.length_append, List.length_cons, List.length_nil, List.length_set, List.length_take, List.length_drop, List.length_map]; omega) | (simp; omega)))]
    rw [condT (dT (by first | omega | (simp only [List.length_append, List.length_cons, List.length_nil, List.length_set, List.length_take, List.length_drop, List.length_map]; omega) | (simp; omega)))]
    rw [getN _ _ _ hlt, condT q1, q2, q3, eta_i, wsucc (by omega), dcons hlt, List.foldl_cons]
    cases ha : hv.any fun o => o.1 == its[i].1 with
    | true => exact ih (i + 1) st (by omega) hok
    | false =>
      have el : (hv ++ [its[i]]).length = hv.length + 1 := by simp
      have hg : (decide (its.length ≤ 5) && decide ((hv ++ [its[i]]).length ≤ its.length) && decide (its.length - (hv ++ [its[i]]).length ≤ 3) && partsOk its && partsOk (hv ++ [its[i]]) && decide (st.2.1.length ≤ 1000) && partsOk st.2.1) = true := by
        rw [el, dT h5, dT (p := hv.length + 1 ≤ its.length) (by omega), dT (p := its.length - (hv.length + 1) ≤ 3) (by omega), hp, parts_snoc hq hx, dT hok.1, hok.2]; rfl
      rw [Bool.not_false, cond_true, condT (dT (by omega)), condT (dT (by simp; omega)), condT hg, el]
      exact ih (i + 1) _ (by omega) (tryF_ok its _ hp _ _ st (by rw [el]; omega) (parts_snoc hq hx) hok)
theorem r68d : R68d := by
  intro a0 its c1 c2 c3 c4 sm qi q1 q2 q3 q4 h
  simp only [Bool.and_eq_true, decide_eq_true_eq] at h
  obtain ⟨⟨⟨⟨⟨⟨h5, hl⟩, hd⟩, hp⟩, hq⟩, hi⟩, hip⟩ := h
  rw [f68d_run]
  by_cases e : a0.length = its.length
  · rw [condT (by rw [beq_iff_eq]; omega), show its.length - a0.length = 0 by omega]
    exact upd_case a0 its c1 c2 c3 c4 sm (qi, (q1, (q2, (q3, q4)))) _ (by rw [dT (p := a0.length ≤ 1000) (by omega), hq, dT hi, hip]; rfl)
  · rw [condF (by rw [beq_eq_false_iff_ne]; omega)]
    obtain ⟨k, hk⟩ : ∃ k, its.length - a0.length = k + 1 := ⟨its.length - a0.length - 1, by omega⟩
    have := go68d its a0 c1 c2 c3 c4 h5 (by omega) (by omega) hp hq its.length 0 (sm, (qi, (q1, (q2, (q3, q4))))) (Nat.zero_add _) ⟨hi, hip⟩
    rw [show its.length - (a0.length + 1) = k by omega] at this
    rw [hk]
    exact this

theorem go68e (its hv : List Item) (c1 c2 c3 c4 : Int) (h5 : its.length ≤ 5) (hh : hv.length < its.length) (hl : its.length - hv.length ≤ 5) (hp : partsOk its = true) (hq : partsOk hv = true) : ∀ (m i : Nat) (st : Bool × Prgm), i + m = its.length → okQ st →
    f68eh0 hv its its.length i its c1 c2 c3 c4 st.1 st.2.1 st.2.2.1 st.2.2.2.1 st.2.2.2.2.1 st.2.2.2.2.2 =
      some (outT its c1 c2 c3 c4 ((its.drop i).foldl (fun st x => cond (hv.any fun o => o.1 == x.1) st (tryF its (c1, (c2, (c3, c4))) (its.length - (hv.length + 1)) (hv ++ [x]) st)) st)) := by
  intro m
  induction m with
  | zero => intro i st hi hok; rw [f68eh0_eq, condF (dlt_not (by omega)), dnil (xs := its) (i := i) (by omega)]; rfl
  | succ m ih =>
    intro i st hi hok
    have hlt : i < its.length := by omega
    have hx := parts_mem hp (List.getElem_mem hlt)
    obtain ⟨q1, q2⟩ := ok55 hv its[i].1 (by omega)
    have q3 : decide (idxBy (fun o => t90_0 o its[i].1) hv 0 < 0) = !(hv.any fun o => o.1 == its[i].1) := lt_any _ hv
    rw [f68eh0_eq]
    rw [condT (dT (by first | omega | (simp only [List.length_append, List.length_cons, List.length_nil, List.length_set, List.length_take, List.length_drop, List.length_map]; omega) | (simp; omega)))]
    rw [condT (dT (by first | omega | (simp only [List.length_append, List.length_cons, List.length_nil, List.length_set, List.length_take, List.length_drop, List.length_map]; omega) | (simp; omega)))]
    rw [condT (dT (by first | omega | (simp only [List.length_append, List.length_cons, List.length_nil, List.length_set, List.length_take, List.length_drop, List.length_map]; omega) | (simp; omega)))]
    rw [getN _ _ _ hlt, condT q1, q2, q3, eta_i, wsucc (by omega), dcons hlt, List.foldl_cons]
    cases ha : hv.any fun o => o.1 == its[i].1 with
    | true => exact ih (i + 1) st (by omega) hok
    | false =>
      have el : (hv ++ [its[i]]).length = hv.length + 1 := by simp
      have hg : (decide (its.length ≤ 5) && decide ((hv ++ [its[i]]).length ≤ its.length) && decide (its.length - (hv ++ [its[i]]).length ≤ 4) && partsOk its && partsOk (hv ++ [its[i]]) && decide (st.2.1.length ≤ 1000) && partsOk st.2.1) = true := by
        rw [el, dT h5, dT (p := hv.length + 1 ≤ its.length) (by omega), dT (p := its.length - (hv.length + 1) ≤ 4) (by omega), hp, parts_snoc hq hx, dT hok.1, hok.2]; rfl
      rw [Bool.not_false, cond_true, condT (dT (by omega)), condT (dT (by simp; omega)), condT hg, el]
      exact ih (i + 1) _ (by omega) (tryF_ok its _ hp _ _ st (by rw [el]; omega) (parts_snoc hq hx) hok)
theorem r68e : R68e := by
  intro a0 its c1 c2 c3 c4 sm qi q1 q2 q3 q4 h
  simp only [Bool.and_eq_true, decide_eq_true_eq] at h
  obtain ⟨⟨⟨⟨⟨⟨h5, hl⟩, hd⟩, hp⟩, hq⟩, hi⟩, hip⟩ := h
  rw [f68e_run]
  by_cases e : a0.length = its.length
  · rw [condT (by rw [beq_iff_eq]; omega), show its.length - a0.length = 0 by omega]
    exact upd_case a0 its c1 c2 c3 c4 sm (qi, (q1, (q2, (q3, q4)))) _ (by rw [dT (p := a0.length ≤ 1000) (by omega), hq, dT hi, hip]; rfl)
  · rw [condF (by rw [beq_eq_false_iff_ne]; omega)]
    obtain ⟨k, hk⟩ : ∃ k, its.length - a0.length = k + 1 := ⟨its.length - a0.length - 1, by omega⟩
    have := go68e its a0 c1 c2 c3 c4 h5 (by omega) (by omega) hp hq its.length 0 (sm, (qi, (q1, (q2, (q3, q4))))) (Nat.zero_add _) ⟨hi, hip⟩
    rw [show its.length - (a0.length + 1) = k by omega] at this
    rw [hk]
    exact this

theorem r25 : R25 := by
  intro a0 h
  simp only [Bool.and_eq_true, decide_eq_true_eq] at h
  have hok : okQ (tryS a0) := tryF_ok a0.1 a0.2 h.2 a0.1.length [] (false, a0) (by simp; exact h.1) rfl ⟨by show a0.1.length ≤ 1000; omega, h.2⟩
  rw [f25_run, condT (by rw [dT h.1, h.2, dT (p := ([] : List Item).length ≤ a0.1.length) (by simp), dT (p := a0.1.length - ([] : List Item).length ≤ 5) (by simp; exact h.1), dT (p := a0.1.length ≤ 1000) (by omega)]; rfl)]
  exact (condT (dT hok.1)).trans ((condT (dT hok.1)).trans rfl)

/-! ### halves -/
theorem go22 (p : Prgm) (hb : p.1.length ≤ 1000) (h2 : 2 ≤ p.1.length) : ∀ (m h : Nat) (b l : Int), h + m = p.1.length - 1 →
    f22h0 b l ((p.1.length - 1 : Nat) : Int) h p.1 p.2.1 p.2.2.1 p.2.2.2.1 p.2.2.2.2 = some ⟨[.dat tI (halfGo p m h b l).1, .dat tI (halfGo p m h b l).2, .dat tI 0], []⟩ := by
  intro m
  induction m with
  | zero => intro h b l hi; rw [f22h0_eq, condF (dlt_not (by omega))]; rfl
  | succ m ih =>
    intro h b l hi
    have e1 := long_of p (p.1.take (h + 1)) (by rw [List.length_take]; omega)
    have e2 := long_of p (p.1.drop (h + 1)) (by rw [List.length_drop]; omega)
    rw [f22h0_eq, condT (dlt (by omega)), wsucc (by omega), eta_pr, Int.toNat_natCast, Int.toNat_natCast, Int.toNat_zero, List.drop_zero, List.take_length, e1.2, e2.2, condT (dT (by omega)), condT (dT (by omega)), condT (dT (by omega)), condT e1.1, condT (dT (by omega)), condT (dT (by omega)), condT (dT (by omega)), condT e2.1]
    rw [halfGo]
    show cond (decide (b < 0)) (f22h0 h (halfD p h) _ _ _ _ _ _ _) (cond (decide (halfD p h < l)) (f22h0 h (halfD p h) _ _ _ _ _ _ _) _) = _
    cases decide (b < 0) with
    | true => exact ih (h + 1) h (halfD p h) (by omega)
    | false =>
      cases decide (halfD p h < l) with
      | true => exact ih (h + 1) h (halfD p h) (by omega)
      | false => exact ih (h + 1) b l (by omega)
theorem prog60 {key : Bytes → Bool} {p : Prgm} (h : checkProg key p = 0) : p.1.length ≤ 60 := by
  unfold checkProg at h
  have hc : checkItems key p.1 = 0 := by
    cases h1 : checkItems key p.1 != 0 with
    | true => rw [h1, cond_true] at h; exact h
    | false => have : (!(checkItems key p.1 == 0)) = false := h1
               simpa using this
  unfold checkItems at hc
  cases h2 : decide ((p.1.length : Int) > 60) with
  | true => rw [h2] at hc; cases hc
  | false => have : ¬ (p.1.length : Int) > 60 := by simpa using h2
             omega
theorem r22 : R22 := by
  intro a0 _
  rw [f22_run, eta_pr]
  unfold halfP
  cases hc : checkProg isKey a0 != 0 with
  | true => rfl
  | false =>
    have hk : checkProg isKey a0 = 0 := by
      have : (!(checkProg isKey a0 == 0)) = false := hc
      simpa using this
    have h60 := prog60 hk
    rw [cond_false, cond_false]
    cases h2 : decide ((a0.1.length : Int) < 2) with
    | true => rfl
    | false =>
      have h2 : ¬ (a0.1.length : Int) < 2 := by simpa using h2
      rw [cond_false, cond_false]
      have ew : wrap .i64 ((a0.1.length : Int) - 1) = ((a0.1.length - 1 : Nat) : Int) := by rw [wrap_in (by omega) (by omega)]; omega
      rw [ew]
      exact go22 a0 (by omega) (by omega) (a0.1.length - 1) 0 (-1) 0 (Nat.zero_add _)
theorem wrap_neg (a b : Int) : wrap .i64 (0 - wrap .i64 (a - b)) = wrap .i64 (b - a) := by
  simp only [wrap, IntKind.wrap_i64]
  omega
theorem long_fit (p : Prgm) (its : List Item) : longR (its, (p.2.1, (p.2.2.1, (p.2.2.2.1, -1)))) = fitL p its := long_eq _
theorem go26 (p : Prgm) (hb : p.1.length ≤ 1000) : ∀ (m h : Nat) (b l : Int), h + m = p.1.length - 1 →
    f26h0 b l h p.1 p.2.1 p.2.2.1 p.2.2.2.1 p.2.2.2.2 = some ⟨[.dat tI (halfGo p m h b l).1, .dat tI (halfGo p m h b l).2], []⟩ := by
  intro m
  induction m with
  | zero => intro h b l hi; rw [f26h0_eq, wsucc (by omega), condF (dlt_not (by omega))]; rfl
  | succ m ih =>
    intro h b l hi
    have l1 : (p.1.take (h + 1)).length ≤ 1000 := by rw [List.length_take]; omega
    have l2 : (p.1.drop (h + 1)).length ≤ 1000 := by rw [List.length_drop]; omega
    rw [f26h0_eq, wsucc (by omega), condT (dlt (by omega)), Int.toNat_natCast, Int.toNat_natCast, Int.toNat_zero, List.drop_zero, List.take_length, long_fit, long_fit, wrap_neg, condT (dT (by omega)), condT (dT (by omega)), condT (dT (by omega)), condT (dT (by omega)), condT (dT (by omega)), condT (dT (by omega)), condT (dT l1), condT (dT l2)]
    rw [halfGo]
    show cond (decide (b < 0)) (f26h0 h (halfD p h) _ _ _ _ _ _) (cond (decide (halfD p h < l)) (f26h0 h (halfD p h) _ _ _ _ _ _) _) = _
    cases decide (b < 0) with
    | true => exact ih (h + 1) h (halfD p h) (by omega)
    | false =>
      cases decide (halfD p h < l) with
      | true => exact ih (h + 1) h (halfD p h) (by omega)
      | false => exact ih (h + 1) b l (by omega)
theorem r26 : R26 := by
  intro a0 h
  simp only [decide_eq_true_eq] at h
  rw [f26_run]
  exact go26 a0 h (a0.1.length - 1) 0 (-1) 0 (Nat.zero_add _)

end Go.Ev.M
