import Derived.Test.YtpajbcpdhpnjlaaDoorA3
import Derived.Below
import Derived.Shelf.Small.Strs
import Derived.Shelf.Strings.SlTrimAscii
import Derived.Test.YtpajbcpdhpnjlaaDoorProg
set_option linter.unusedVariables false
set_option linter.unusedSimpArgs false
set_option maxRecDepth 100000
namespace Go.Ev.L
open Go Go.Ev Go.Proofs
noncomputable def f45h0 (x0 : Int) (x1 : (List Item)) (x2 : Int) (x3 : Int) (x4 : (List Item)) (x5 : Int) (x6 : Int) (x7 : Int) (x8 : Int) (x9 : (List Int)) : Option Fr := I45.hd 0 (mkF 38 [(1, .ptr 500 0), (4, .slc 501), (5, .dat tI x0), (9, .dat (.slice tItem) x1), (10, .dat tI x2), (11, .dat tI x3)] [(500, .box [.dat (.slice tItem) x4, .dat tI x5, .dat tI x6, .dat tI x7, .dat tI x8]), (501, .arr tI x9)])
theorem f45_run (a0 : Prgm) : I45.run ⟨[.dat tPrgm a0], []⟩ = (f45h0 (0 : Int) a0.1 ((List.length a0.1 : Nat) : Int) (0 : Int) a0.1 a0.2.1 a0.2.2.1 a0.2.2.2.1 a0.2.2.2.2 ([] : List Int)) := (I45.run_eq _).trans (by kernel_rfl)
theorem f45h0_eq (x0 : Int) (x1 : (List Item)) (x2 : Int) (x3 : Int) (x4 : (List Item)) (x5 : Int) (x6 : Int) (x7 : Int) (x8 : Int) (x9 : (List Int)) : f45h0 x0 x1 x2 x3 x4 x5 x6 x7 x8 x9 = (cond (decide (x3 < x2)) (cond (decide ((0 : Int) ≤ x3)) (cond (decide (x3 < ((List.length x1 : Nat) : Int))) (cond (decide ((List.length x9 + List.length [x0]) * 8 ≤ 140737488355328)) (cond (decide ((wrap .i64 (x3 + (1 : Int))) < ((List.length x4 : Nat) : Int))) (cond (decide (0 ≤ x3) && decide (x3 + 1 < (List.length (x4, (x5, (x6, (x7, x8)))).1 : Int)) && decide (List.length (x4, (x5, (x6, (x7, x8)))).1 ≤ 1000)) (f45h0 (wrap .i64 ((wrap .i64 (x0 + (List.getD x1 (Int.toNat x3) (Tc.dflt tItem)).2.2.1)) + (behindF (x4, (x5, (x6, (x7, x8)))) x3))) x1 x2 (wrap .i64 (x3 + (1 : Int))) x4 x5 x6 x7 x8 (x9 ++ [x0])) none) (f45h0 (wrap .i64 (x0 + (List.getD x1 (Int.toNat x3) (Tc.dflt tItem)).2.2.1)) x1 x2 (wrap .i64 (x3 + (1 : Int))) x4 x5 x6 x7 x8 (x9 ++ [x0]))) none) none) none) (some ⟨[.slc 0, .dat tI x0], [(0, .arr tI x9)]⟩)) := hdEq (by kernel_rfl)
theorem f9_run (a0 : Prgm) : I9.run ⟨[.dat tPrgm a0], []⟩ = (cond ((checkProg isKey (a0.1, (a0.2.1, (a0.2.2.1, (a0.2.2.2.1, a0.2.2.2.2))))) != (0 : Int)) (some ⟨[.dat tI (0 : Int), .dat tI (checkProg isKey (a0.1, (a0.2.1, (a0.2.2.1, (a0.2.2.2.1, a0.2.2.2.2)))))], []⟩) (cond (decide (List.length (a0.1, (a0.2.1, (a0.2.2.1, (a0.2.2.2.1, a0.2.2.2.2)))).1 ≤ 1000)) (some ⟨[.dat tI ((begGo (a0.1, (a0.2.1, (a0.2.2.1, (a0.2.2.2.1, a0.2.2.2.2)))) 0 0 (a0.1, (a0.2.1, (a0.2.2.1, (a0.2.2.2.1, a0.2.2.2.2)))).1).2), .dat tI (0 : Int)], []⟩) none)) := (I9.run_eq _).trans (by kernel_rfl)
theorem f20_run  : I20.run ⟨[], []⟩ = (cond (((longP (([([97], ([112], ((7 : Int), ([[97, 108, 116, 111]] : List Bytes))))] : List Item), ((0 : Int), ((0 : Int), ((0 : Int), (-1 : Int)))))).2) == (0 : Int)) (some ⟨[.dat .bool (((longP (([([97], ([112], ((7 : Int), ([[97, 108, 116, 111]] : List Bytes))))] : List Item), ((0 : Int), ((0 : Int), ((0 : Int), (-1 : Int)))))).1) == (7 : Int))], []⟩) (some ⟨[.dat .bool false], []⟩)) := (I20.run_eq _).trans (by kernel_rfl)
noncomputable def f23h0 (x0 : (List Int)) (x1 : Int) (x2 : Int) : Option Fr := I23.hd 0 (mkF 15 [(5, .dat (.slice tI) x0), (6, .dat tI x1), (7, .dat tI x2)] [])
theorem f23_run (a0 : (List Int)) : I23.run ⟨[.dat (.slice tI) a0], []⟩ = (f23h0 a0 ((List.length a0 : Nat) : Int) (0 : Int)) := (I23.run_eq _).trans (by kernel_rfl)
theorem f23h0_eq (x0 : (List Int)) (x1 : Int) (x2 : Int) : f23h0 x0 x1 x2 = (cond (decide (x2 < x1)) (cond (decide ((0 : Int) ≤ x2)) (cond (decide (x2 < ((List.length x0 : Nat) : Int))) (cond ((List.getD x0 (Int.toNat x2) (Tc.dflt tI)) != (0 : Int)) (some ⟨[.dat tI (List.getD x0 (Int.toNat x2) (Tc.dflt tI))], []⟩) (f23h0 x0 x1 (wrap .i64 (x2 + (1 : Int))))) none) none) (some ⟨[.dat tI (0 : Int)], []⟩)) := hdEq (by kernel_rfl)
theorem f24_run (a0 : Bool) (a1 : Int) : I24.run ⟨[.dat .bool a0, .dat tI a1], []⟩ = (cond a0 (some ⟨[.dat tI a1], []⟩) (some ⟨[.dat tI (0 : Int)], []⟩)) := (I24.run_eq _).trans (by kernel_rfl)
noncomputable def f27h0 (x0 : (List Bytes)) (x1 : (List Bytes)) (x2 : Int) (x3 : Int) : Option Fr := I27.hd 0 (mkF 26 [(0, .dat (.slice .str) x0), (1, .dat (.slice .str) x1), (12, .dat tI x2), (13, .dat tI x3)] [])
theorem f27_run (a0 : (List Bytes)) (a1 : (List Bytes)) : I27.run ⟨[.dat (.slice .str) a0, .dat (.slice .str) a1], []⟩ = (cond (((List.length a0 : Nat) : Int) != ((List.length a1 : Nat) : Int)) (some ⟨[.dat .bool false], []⟩) (f27h0 a0 a1 ((List.length a0 : Nat) : Int) (0 : Int))) := (I27.run_eq _).trans (by kernel_rfl)
theorem f27h0_eq (x0 : (List Bytes)) (x1 : (List Bytes)) (x2 : Int) (x3 : Int) : f27h0 x0 x1 x2 x3 = (cond (decide (x3 < x2)) (cond (decide ((0 : Int) ≤ x3)) (cond (decide (x3 < ((List.length x0 : Nat) : Int))) (cond (decide ((0 : Int) ≤ x3)) (cond (decide (x3 < ((List.length x1 : Nat) : Int))) (cond (!((List.getD x0 (Int.toNat x3) (Tc.dflt .str)) == (List.getD x1 (Int.toNat x3) (Tc.dflt .str)))) (some ⟨[.dat .bool false], []⟩) (f27h0 x0 x1 x2 (wrap .i64 (x3 + (1 : Int))))) none) none) none) none) (some ⟨[.dat .bool true], []⟩)) := hdEq (by kernel_rfl)
theorem f62_run (a0 : Prgm) (a1 : (List Item)) : I62.run ⟨[.dat tPrgm a0, .dat (.slice tItem) a1], []⟩ = (cond (decide (List.length (a1, (a0.2.1, (a0.2.2.1, (a0.2.2.2.1, (-1 : Int))))).1 ≤ 1000)) (some ⟨[.dat tI ((begGo (a1, (a0.2.1, (a0.2.2.1, (a0.2.2.2.1, (-1 : Int))))) 0 0 (a1, (a0.2.1, (a0.2.2.1, (a0.2.2.2.1, (-1 : Int))))).1).2)], []⟩) none) := (I62.run_eq _).trans (by kernel_rfl)
theorem f109_run (a0 : Int) : I109.run ⟨[.dat tI a0], []⟩ = (some ⟨[.dat .bool (a0 != a0)], []⟩) := (I109.run_eq _).trans (by kernel_rfl)
theorem f92_run (a0 : Int) (a1 : Int) : I92.run ⟨[.dat tI a0, .dat tI a1], []⟩ = (cond (t109_0 a0) (cond (t109_0 a1) (some ⟨[.dat tI (0 : Int)], []⟩) (some ⟨[.dat tI (-1 : Int)], []⟩)) (cond (t109_0 a1) (some ⟨[.dat tI (1 : Int)], []⟩) (cond (decide (a0 < a1)) (some ⟨[.dat tI (-1 : Int)], []⟩) (cond (decide (a0 > a1)) (some ⟨[.dat tI (1 : Int)], []⟩) (some ⟨[.dat tI (0 : Int)], []⟩))))) := (I92.run_eq _).trans (by kernel_rfl)
noncomputable def f64h0 (x0 : (List Int)) (x1 : (List Int)) (x2 : (List Int)) (x3 : Int) (x4 : Int) : Option Fr := I64.hd 0 (mkF 36 [(0, .dat (.slice tI) x0), (1, .dat (.slice tI) x1), (9, .dat (.slice tI) x2), (10, .dat tI x3), (11, .dat tI x4)] [])
theorem f64_run (a0 : (List Int)) (a1 : (List Int)) : I64.run ⟨[.dat (.slice tI) a0, .dat (.slice tI) a1], []⟩ = (f64h0 a0 a1 a0 ((List.length a0 : Nat) : Int) (0 : Int)) := (I64.run_eq _).trans (by kernel_rfl)
theorem f64h0_eq (x0 : (List Int)) (x1 : (List Int)) (x2 : (List Int)) (x3 : Int) (x4 : Int) : f64h0 x0 x1 x2 x3 x4 = (cond (decide (x4 < x3)) (cond (decide ((0 : Int) ≤ x4)) (cond (decide (x4 < ((List.length x2 : Nat) : Int))) (cond (decide (x4 ≥ ((List.length x1 : Nat) : Int))) (some ⟨[.dat tI (1 : Int)], []⟩) (cond (decide ((0 : Int) ≤ x4)) (cond (decide (x4 < ((List.length x1 : Nat) : Int))) (cond ((t92_0 (List.getD x2 (Int.toNat x4) (Tc.dflt tI)) (List.getD x1 (Int.toNat x4) (Tc.dflt tI))) != (0 : Int)) (some ⟨[.dat tI (t92_0 (List.getD x2 (Int.toNat x4) (Tc.dflt tI)) (List.getD x1 (Int.toNat x4) (Tc.dflt tI)))], []⟩) (f64h0 x0 x1 x2 x3 (wrap .i64 (x4 + (1 : Int))))) none) none)) none) none) (cond (decide (((List.length x0 : Nat) : Int) < ((List.length x1 : Nat) : Int))) (some ⟨[.dat tI (-1 : Int)], []⟩) (some ⟨[.dat tI (0 : Int)], []⟩))) := hdEq (by kernel_rfl)
noncomputable def f36h0 (x0 : Int) (x1 : Int) (x2 : Int) (x3 : Int) (x4 : (List Item)) (x5 : Int) (x6 : Int) (x7 : Int) (x8 : Int) (x9 : (List Int)) : Option Fr := I36.hd 0 (mkF 114 [(1, .dat tI x0), (2, .ptr 500 0), (7, .slc 501), (8, .dat tI x1), (33, .dat tI x2), (34, .dat tI x3)] [(500, .box [.dat (.slice tItem) x4, .dat tI x5, .dat tI x6, .dat tI x7, .dat tI x8]), (501, .arr tI x9)])
noncomputable def f36h2 (x0 : Int) (x1 : Int) (x2 : Int) (x3 : Int) (x4 : Int) (x5 : (List Item)) (x6 : Int) (x7 : Int) (x8 : (List Item)) (x9 : Int) (x10 : Int) (x11 : Int) (x12 : Int) (x13 : (List Int)) (x14 : (List Item)) (x15 : (List Int)) : Option Fr := I36.hd 2 (mkF 114 [(1, .dat tI x0), (2, .ptr 500 0), (7, .slc 501), (8, .dat tI x1), (9, .dat tI x2), (10, .slc 502), (11, .slc 503), (33, .dat tI x3), (34, .dat tI x4), (38, .dat (.slice tItem) x5), (39, .dat tI x6), (40, .dat tI x7)] [(500, .box [.dat (.slice tItem) x8, .dat tI x9, .dat tI x10, .dat tI x11, .dat tI x12]), (501, .arr tI x13), (502, .arr tItem x14), (503, .arr tI x15)])
noncomputable def f36h4 (x0 : Int) (x1 : Int) (x2 : (List Item)) (x3 : Int) (x4 : Int) (x5 : Int) (x6 : Int) (x7 : (List Bytes)) (x8 : (List Int)) : Option Fr := I36.hd 4 (mkF 114 [(2, .ptr 500 0), (16, .slc 501), (97, .slc 502), (98, .dat tI x0), (99, .dat tI x1)] [(500, .box [.dat (.slice tItem) x2, .dat tI x3, .dat tI x4, .dat tI x5, .dat tI x6]), (501, .arr .str x7), (502, .arr tI x8)])
theorem f36_run (a0 : Prgm) (a1 : Int) : I36.run ⟨[.dat tPrgm a0, .dat tI a1], []⟩ = (cond ((checkProg isKey (a0.1, (a0.2.1, (a0.2.2.1, (a0.2.2.2.1, a0.2.2.2.2))))) != (0 : Int)) (some ⟨[.dat (.slice .str) ([] : List Bytes), .dat tI (checkProg isKey (a0.1, (a0.2.1, (a0.2.2.1, (a0.2.2.2.1, a0.2.2.2.2)))))], []⟩) (cond (decide (((List.length a0.1 : Nat) : Int) > (16 : Int))) (some ⟨[.dat (.slice .str) ([] : List Bytes), .dat tI (2 : Int)], []⟩) (cond (outside a1 (0 : Int) (5184000000 : Int)) (some ⟨[.dat (.slice .str) ([] : List Bytes), .dat tI (1 : Int)], []⟩) (cond (decide (((List.length a0.1 : Nat) : Int) < 0)) none (f36h0 a1 (0 : Int) (wrap .i64 ((1 : Int) * 2 ^ (min (Int.toNat ((List.length a0.1 : Nat) : Int)) (IntKind.bits .i64)))) (0 : Int) a0.1 a0.2.1 a0.2.2.1 a0.2.2.2.1 a0.2.2.2.2 ([] : List Int)))))) := (I36.run_eq _).trans (by kernel_rfl)
theorem f36h0_eq (x0 : Int) (x1 : Int) (x2 : Int) (x3 : Int) (x4 : (List Item)) (x5 : Int) (x6 : Int) (x7 : Int) (x8 : Int) (x9 : (List Int)) : f36h0 x0 x1 x2 x3 x4 x5 x6 x7 x8 x9 = (cond (decide (x3 < x2)) (f36h2 x0 x1 x3 x2 x3 x4 ((List.length x4 : Nat) : Int) (0 : Int) x4 x5 x6 x7 x8 x9 ([] : List Item) ([] : List Int)) (f36h4 ((List.length x9 : Nat) : Int) (0 : Int) x4 x5 x6 x7 x8 ([] : List Bytes) x9)) := hdEq (by kernel_rfl)
theorem f36h2_eq (x0 : Int) (x1 : Int) (x2 : Int) (x3 : Int) (x4 : Int) (x5 : (List Item)) (x6 : Int) (x7 : Int) (x8 : (List Item)) (x9 : Int) (x10 : Int) (x11 : Int) (x12 : Int) (x13 : (List Int)) (x14 : (List Item)) (x15 : (List Int)) : f36h2 x0 x1 x2 x3 x4 x5 x6 x7 x8 x9 x10 x11 x12 x13 x14 x15 = (cond (decide (x7 < x6)) (cond (decide ((0 : Int) ≤ x7)) (cond (decide (x7 < ((List.length x5 : Nat) : Int))) (cond (decide (x7 < 0)) none (cond ((wrap .i64 ((BitVec.ofInt (IntKind.bits .i64) (Int.fdiv x2 (2 ^ (min (Int.toNat x7) (IntKind.bits .i64)))) &&& BitVec.ofInt (IntKind.bits .i64) (1 : Int)).toNat : Int)) == (1 : Int)) (cond (decide ((List.length x14 + List.length ([((List.getD x5 (Int.toNat x7) (Tc.dflt tItem)).1, ((List.getD x5 (Int.toNat x7) (Tc.dflt tItem)).2.1, ((List.getD x5 (Int.toNat x7) (Tc.dflt tItem)).2.2.1, (List.getD x5 (Int.toNat x7) (Tc.dflt tItem)).2.2.2)))] : List Item)) * 64 ≤ 140737488355328)) (cond (decide ((List.length x15 + List.length [x7]) * 8 ≤ 140737488355328)) (f36h2 x0 x1 x2 x3 x4 x5 x6 (wrap .i64 (x7 + (1 : Int))) x8 x9 x10 x11 x12 x13 (x14 ++ ([((List.getD x5 (Int.toNat x7) (Tc.dflt tItem)).1, ((List.getD x5 (Int.toNat x7) (Tc.dflt tItem)).2.1, ((List.getD x5 (Int.toNat x7) (Tc.dflt tItem)).2.2.1, (List.getD x5 (Int.toNat x7) (Tc.dflt tItem)).2.2.2)))] : List Item)) (x15 ++ [x7])) none) none) (f36h2 x0 x1 x2 x3 x4 x5 x6 (wrap .i64 (x7 + (1 : Int))) x8 x9 x10 x11 x12 x13 x14 x15))) none) none) (cond (t62_ok (x8, (x9, (x10, (x11, x12)))) x14) (cond (decide ((t62_0 (x8, (x9, (x10, (x11, x12)))) x14) ≤ x0)) (cond (decide ((wrap .i64 (((List.length x15 : Nat) : Int) - ((List.length x13 : Nat) : Int))) > (0 : Int))) (f36h0 x0 (t62_0 (x8, (x9, (x10, (x11, x12)))) x14) x3 (wrap .i64 (x4 + (1 : Int))) x8 x9 x10 x11 x12 x15) (cond ((wrap .i64 (((List.length x15 : Nat) : Int) - ((List.length x13 : Nat) : Int))) == (0 : Int)) (cond (decide ((t62_0 (x8, (x9, (x10, (x11, x12)))) x14) > x1)) (f36h0 x0 (t62_0 (x8, (x9, (x10, (x11, x12)))) x14) x3 (wrap .i64 (x4 + (1 : Int))) x8 x9 x10 x11 x12 x15) (cond ((t62_0 (x8, (x9, (x10, (x11, x12)))) x14) == x1) (cond (decide (List.length x15 ≤ 1000)) (cond (decide ((cmpGo x15 x13) < (0 : Int))) (f36h0 x0 (t62_0 (x8, (x9, (x10, (x11, x12)))) x14) x3 (wrap .i64 (x4 + (1 : Int))) x8 x9 x10 x11 x12 x15) (f36h0 x0 x1 x3 (wrap .i64 (x4 + (1 : Int))) x8 x9 x10 x11 x12 x13)) none) (f36h0 x0 x1 x3 (wrap .i64 (x4 + (1 : Int))) x8 x9 x10 x11 x12 x13))) (f36h0 x0 x1 x3 (wrap .i64 (x4 + (1 : Int))) x8 x9 x10 x11 x12 x13))) (f36h0 x0 x1 x3 (wrap .i64 (x4 + (1 : Int))) x8 x9 x10 x11 x12 x13)) none)) := hdEq (by kernel_rfl)
theorem f36h4_eq (x0 : Int) (x1 : Int) (x2 : (List Item)) (x3 : Int) (x4 : Int) (x5 : Int) (x6 : Int) (x7 : (List Bytes)) (x8 : (List Int)) : f36h4 x0 x1 x2 x3 x4 x5 x6 x7 x8 = (cond (decide (x1 < x0)) (cond (decide ((0 : Int) ≤ x1)) (cond (decide (x1 < ((List.length x8 : Nat) : Int))) (cond (decide ((Int.toNat x1) < List.length x8)) (cond (decide ((0 : Int) ≤ (List.getD x8 (Int.toNat x1) (Tc.dflt tI)))) (cond (decide ((List.getD x8 (Int.toNat x1) (Tc.dflt tI)) < ((List.length x2 : Nat) : Int))) (cond (decide ((List.length x7 + List.length ([(List.getD x2 (Int.toNat (List.getD x8 (Int.toNat x1) (Tc.dflt tI))) (Tc.dflt tItem)).1] : List Bytes)) * 16 ≤ 140737488355328)) (f36h4 x0 (wrap .i64 (x1 + (1 : Int))) x2 x3 x4 x5 x6 (x7 ++ ([(List.getD x2 (Int.toNat (List.getD x8 (Int.toNat x1) (Tc.dflt tI))) (Tc.dflt tItem)).1] : List Bytes)) x8) none) none) none) none) none) none) (some ⟨[.dat (.slice .str) x7, .dat tI (0 : Int)], []⟩)) := hdEq (by kernel_rfl)
theorem f76_run (a0 : Again) (a1 : Again) : I76.run ⟨[.dat tAgain a0, .dat tAgain a1], []⟩ = (some ⟨[.dat tI (wrap .i64 (a1.2 - a0.2))], []⟩) := (I76.run_eq _).trans (by kernel_rfl)
noncomputable def f112h0 (x0 : Int) (x1 : Int) (x2 : Int) (x3 : (List Again)) : Option Fr := I112.hd 0 (mkF 53 [(0, .slc 0), (1, .dat tI x0), (2, .dat tI x1), (3, .clos 76 []), (8, .dat tI x2)] [(0, .arr tAgain x3)])
noncomputable def f112h2 (x0 : Int) (x1 : Int) (x2 : Int) (x3 : Int) (x4 : (List Again)) : Option Fr := I112.hd 2 (mkF 53 [(0, .slc 0), (1, .dat tI x0), (2, .dat tI x1), (3, .clos 76 []), (8, .dat tI x2), (9, .dat tI x3)] [(0, .arr tAgain x4)])
theorem f112_run (a : Int) (b : Int) (a0 : (List Again)) : I112.run ⟨[.slc 0, .dat tI a, .dat tI b, .clos 76 []], [(0, .arr tAgain a0)]⟩ = (f112h0 a b (wrap .i64 (a + (1 : Int))) a0) := (I112.run_eq _).trans (by kernel_rfl)
theorem f112h0_eq (x0 : Int) (x1 : Int) (x2 : Int) (x3 : (List Again)) : f112h0 x0 x1 x2 x3 = (cond (decide (x2 < x1)) (f112h2 x0 x1 x2 x2 x3) (some ⟨[], [(0, .arr tAgain x3)]⟩)) := hdEq (by kernel_rfl)
theorem f112h2_eq (x0 : Int) (x1 : Int) (x2 : Int) (x3 : Int) (x4 : (List Again)) : f112h2 x0 x1 x2 x3 x4 = (cond (decide (x3 > x0)) (cond (decide ((0 : Int) ≤ x3)) (cond (decide (x3 < ((List.length x4 : Nat) : Int))) (cond (decide ((Int.toNat x3) < List.length x4)) (cond (decide ((0 : Int) ≤ (wrap .i64 (x3 - (1 : Int))))) (cond (decide ((wrap .i64 (x3 - (1 : Int))) < ((List.length x4 : Nat) : Int))) (cond (decide ((Int.toNat (wrap .i64 (x3 - (1 : Int)))) < List.length x4)) (cond (decide ((t76_0 (List.getD x4 (Int.toNat x3) (Tc.dflt tAgain)) (List.getD x4 (Int.toNat (wrap .i64 (x3 - (1 : Int)))) (Tc.dflt tAgain))) < (0 : Int))) (cond (decide ((0 : Int) ≤ (wrap .i64 (x3 - (1 : Int))))) (cond (decide ((wrap .i64 (x3 - (1 : Int))) < ((List.length x4 : Nat) : Int))) (cond (decide ((Int.toNat (wrap .i64 (x3 - (1 : Int)))) < List.length x4)) (cond (decide ((0 : Int) ≤ x3)) (cond (decide (x3 < ((List.length x4 : Nat) : Int))) (cond (decide ((Int.toNat x3) < List.length x4)) (cond (decide ((0 : Int) ≤ x3)) (cond (decide (x3 < ((List.length x4 : Nat) : Int))) (cond (decide ((Int.toNat x3) < List.length x4)) (cond (decide ((0 : Int) ≤ (wrap .i64 (x3 - (1 : Int))))) (cond (decide ((wrap .i64 (x3 - (1 : Int))) < ((List.length (List.set x4 (Int.toNat x3) (List.getD x4 (Int.toNat (wrap .i64 (x3 - (1 : Int)))) (Tc.dflt tAgain))) : Nat) : Int))) (cond (decide ((Int.toNat (wrap .i64 (x3 - (1 : Int)))) < List.length (List.set x4 (Int.toNat x3) (List.getD x4 (Int.toNat (wrap .i64 (x3 - (1 : Int)))) (Tc.dflt tAgain))))) (f112h2 x0 x1 x2 (wrap .i64 (x3 - (1 : Int))) (List.set (List.set x4 (Int.toNat x3) (List.getD x4 (Int.toNat (wrap .i64 (x3 - (1 : Int)))) (Tc.dflt tAgain))) (Int.toNat (wrap .i64 (x3 - (1 : Int)))) (List.getD x4 (Int.toNat x3) (Tc.dflt tAgain)))) none) none) none) none) none) none) none) none) none) none) none) none) (f112h0 x0 x1 (wrap .i64 (x2 + (1 : Int))) x4)) none) none) none) none) none) none) (f112h0 x0 x1 (wrap .i64 (x2 + (1 : Int))) x4)) := hdEq (by kernel_rfl)
noncomputable def f98h0 (x0 : Int) (x1 : Int) (x2 : Int) (x3 : Int) (x4 : (List Again)) : Option Fr := I98.hd 0 (mkF 63 [(0, .slc 0), (1, .dat tI x0), (2, .clos 76 []), (6, .dat tI x1), (7, .dat tI x2), (8, .dat tI x3)] [(0, .arr tAgain x4)])
noncomputable def f98h2 (x0 : Int) (x1 : Int) (x2 : (List Again)) : Option Fr := I98.hd 2 (mkF 63 [(0, .slc 0), (1, .dat tI x0), (2, .clos 76 []), (6, .dat tI x1)] [(0, .arr tAgain x2)])
noncomputable def f98h4 (x0 : Int) (x1 : Int) (x2 : Int) (x3 : Int) (x4 : (List Again)) : Option Fr := I98.hd 4 (mkF 63 [(0, .slc 0), (1, .dat tI x0), (2, .clos 76 []), (6, .dat tI x1), (7, .dat tI x2), (8, .dat tI x3)] [(0, .arr tAgain x4)])
theorem f98_run (n : Int) (a0 : (List Again)) : I98.run ⟨[.slc 0, .dat tI n, .clos 76 []], [(0, .arr tAgain a0)]⟩ = (f98h0 n (20 : Int) (0 : Int) (20 : Int) a0) := (I98.run_eq _).trans (by kernel_rfl)
theorem f98h0_eq (x0 : Int) (x1 : Int) (x2 : Int) (x3 : Int) (x4 : (List Again)) : f98h0 x0 x1 x2 x3 x4 = (cond (decide (x3 ≤ x0)) (cond (decide (List.length x4 ≤ 12) && x2 == 0 && x3 == (List.length x4 : Int)) (f98h0 x0 x1 x3 (wrap .i64 (x3 + x1)) (sortG (fun u v => decide (t76_0 u v < 0)) x4)) none) (cond (decide (List.length x4 ≤ 12) && x2 == 0 && x0 == (List.length x4 : Int)) (f98h2 x0 x1 (sortG (fun u v => decide (t76_0 u v < 0)) x4)) none)) := hdEq (by kernel_rfl)
theorem f98h2_eq (x0 : Int) (x1 : Int) (x2 : (List Again)) : f98h2 x0 x1 x2 = (cond (decide (x1 < x0)) (f98h4 x0 x1 (0 : Int) (wrap .i64 ((2 : Int) * x1)) x2) (some ⟨[], [(0, .arr tAgain x2)]⟩)) := hdEq (by kernel_rfl)
theorem f98h4_eq (x0 : Int) (x1 : Int) (x2 : Int) (x3 : Int) (x4 : (List Again)) : f98h4 x0 x1 x2 x3 x4 = (cond (decide (x3 ≤ x0)) none (cond (decide ((wrap .i64 (x2 + x1)) < x0)) none (f98h2 x0 (wrap .i64 (x1 * (2 : Int))) x4))) := hdEq (by kernel_rfl)
theorem f75_run (a0 : (List Again)) : I75.run ⟨[.slc 0, .clos 76 []], [(0, .arr tAgain a0)]⟩ = (cond (decide (List.length a0 ≤ 12) && ((List.length a0 : Nat) : Int) == (List.length a0 : Int)) (some ⟨[], [(0, .arr tAgain (sortG (fun u v => decide (t76_0 u v < 0)) a0))]⟩) none) := (I75.run_eq _).trans (by kernel_rfl)
noncomputable def f37h0 (x0 : Int) (x1 : (List Item)) (x2 : Int) (x3 : Int) (x4 : (List Item)) (x5 : Int) (x6 : Int) (x7 : Int) (x8 : Int) (x9 : Bytes) (x10 : Bytes) (x11 : Int) (x12 : (List Bytes)) (x13 : (List Again)) : Option Fr := I37.hd 0 (mkF 74 [(1, .dat tI x0), (2, .ptr 500 0), (7, .ptr 501 0), (8, .slc 502), (35, .dat (.slice tItem) x1), (36, .dat tI x2), (37, .dat tI x3)] [(500, .box [.dat (.slice tItem) x4, .dat tI x5, .dat tI x6, .dat tI x7, .dat tI x8]), (501, .box [.dat .str x9, .dat .str x10, .dat tI x11, .dat (.slice .str) x12]), (502, .arr tAgain x13)])
noncomputable def f37h2 (x0 : Int) (x1 : Int) (x2 : (List Bytes)) (x3 : (List Again)) : Option Fr := I37.hd 2 (mkF 74 [(12, .slc 500), (61, .slc 501), (62, .dat tI x0), (63, .dat tI x1)] [(500, .arr .str x2), (501, .arr tAgain x3)])
theorem f37_run (a0 : Prgm) (a1 : Int) : I37.run ⟨[.dat tPrgm a0, .dat tI a1], []⟩ = (cond ((checkProg isKey (a0.1, (a0.2.1, (a0.2.2.1, (a0.2.2.2.1, a0.2.2.2.2))))) != (0 : Int)) (some ⟨[.dat (.slice .str) ([] : List Bytes), .dat tI (checkProg isKey (a0.1, (a0.2.1, (a0.2.2.1, (a0.2.2.2.1, a0.2.2.2.2)))))], []⟩) (cond (outside a1 (0 : Int) (86400000 : Int)) (some ⟨[.dat (.slice .str) ([] : List Bytes), .dat tI (1 : Int)], []⟩) (cond (((List.length a0.1 : Nat) : Int) == (0 : Int)) (some ⟨[.dat (.slice .str) ([] : List Bytes), .dat tI (8 : Int)], []⟩) (cond (decide ((0 : Int) ≤ (wrap .i64 (((List.length a0.1 : Nat) : Int) - (1 : Int))))) (cond (decide ((wrap .i64 (((List.length a0.1 : Nat) : Int) - (1 : Int))) < ((List.length a0.1 : Nat) : Int))) (f37h0 a1 a0.1 ((List.length a0.1 : Nat) : Int) (0 : Int) a0.1 a0.2.1 a0.2.2.1 a0.2.2.2.1 a0.2.2.2.2 (List.getD a0.1 (Int.toNat (wrap .i64 (((List.length a0.1 : Nat) : Int) - (1 : Int)))) (Tc.dflt tItem)).1 (List.getD a0.1 (Int.toNat (wrap .i64 (((List.length a0.1 : Nat) : Int) - (1 : Int)))) (Tc.dflt tItem)).2.1 (List.getD a0.1 (Int.toNat (wrap .i64 (((List.length a0.1 : Nat) : Int) - (1 : Int)))) (Tc.dflt tItem)).2.2.1 (List.getD a0.1 (Int.toNat (wrap .i64 (((List.length a0.1 : Nat) : Int) - (1 : Int)))) (Tc.dflt tItem)).2.2.2 ([] : List Again)) none) none)))) := (I37.run_eq _).trans (by kernel_rfl)
theorem f37h0_eq (x0 : Int) (x1 : (List Item)) (x2 : Int) (x3 : Int) (x4 : (List Item)) (x5 : Int) (x6 : Int) (x7 : Int) (x8 : Int) (x9 : Bytes) (x10 : Bytes) (x11 : Int) (x12 : (List Bytes)) (x13 : (List Again)) : f37h0 x0 x1 x2 x3 x4 x5 x6 x7 x8 x9 x10 x11 x12 x13 = (cond (decide (x3 < x2)) (cond (decide ((0 : Int) ≤ x3)) (cond (decide (x3 < ((List.length x1 : Nat) : Int))) (cond (decide ((wrap .i64 ((t74_0 (x4, (x5, (x6, (x7, x8)))) (x9, (x10, (x11, x12))) ((List.getD x1 (Int.toNat x3) (Tc.dflt tItem)).1, ((List.getD x1 (Int.toNat x3) (Tc.dflt tItem)).2.1, ((List.getD x1 (Int.toNat x3) (Tc.dflt tItem)).2.2.1, (List.getD x1 (Int.toNat x3) (Tc.dflt tItem)).2.2.2)))) + (List.getD x1 (Int.toNat x3) (Tc.dflt tItem)).2.2.1)) ≤ x0)) (cond (decide ((List.length x13 + List.length ([((List.getD x1 (Int.toNat x3) (Tc.dflt tItem)).1, (wrap .i64 ((t74_0 (x4, (x5, (x6, (x7, x8)))) (x9, (x10, (x11, x12))) ((List.getD x1 (Int.toNat x3) (Tc.dflt tItem)).1, ((List.getD x1 (Int.toNat x3) (Tc.dflt tItem)).2.1, ((List.getD x1 (Int.toNat x3) (Tc.dflt tItem)).2.2.1, (List.getD x1 (Int.toNat x3) (Tc.dflt tItem)).2.2.2)))) + (List.getD x1 (Int.toNat x3) (Tc.dflt tItem)).2.2.1)))] : List Again)) * 24 ≤ 140737488355328)) (f37h0 x0 x1 x2 (wrap .i64 (x3 + (1 : Int))) x4 x5 x6 x7 x8 x9 x10 x11 x12 (x13 ++ ([((List.getD x1 (Int.toNat x3) (Tc.dflt tItem)).1, (wrap .i64 ((t74_0 (x4, (x5, (x6, (x7, x8)))) (x9, (x10, (x11, x12))) ((List.getD x1 (Int.toNat x3) (Tc.dflt tItem)).1, ((List.getD x1 (Int.toNat x3) (Tc.dflt tItem)).2.1, ((List.getD x1 (Int.toNat x3) (Tc.dflt tItem)).2.2.1, (List.getD x1 (Int.toNat x3) (Tc.dflt tItem)).2.2.2)))) + (List.getD x1 (Int.toNat x3) (Tc.dflt tItem)).2.2.1)))] : List Again))) none) (f37h0 x0 x1 x2 (wrap .i64 (x3 + (1 : Int))) x4 x5 x6 x7 x8 x9 x10 x11 x12 x13)) none) none) (cond (decide (List.length x13 ≤ 12)) (f37h2 ((List.length (sortG (fun u v => decide (t76_0 u v < 0)) x13) : Nat) : Int) (0 : Int) ([] : List Bytes) (sortG (fun u v => decide (t76_0 u v < 0)) x13)) none)) := hdEq (by kernel_rfl)
theorem f37h2_eq (x0 : Int) (x1 : Int) (x2 : (List Bytes)) (x3 : (List Again)) : f37h2 x0 x1 x2 x3 = (cond (decide (x1 < x0)) (cond (decide ((0 : Int) ≤ x1)) (cond (decide (x1 < ((List.length x3 : Nat) : Int))) (cond (decide ((Int.toNat x1) < List.length x3)) (cond (decide ((List.length x2 + List.length ([(List.getD x3 (Int.toNat x1) (Tc.dflt tAgain)).1] : List Bytes)) * 16 ≤ 140737488355328)) (f37h2 x0 (wrap .i64 (x1 + (1 : Int))) (x2 ++ ([(List.getD x3 (Int.toNat x1) (Tc.dflt tAgain)).1] : List Bytes)) x3) none) none) none) none) (some ⟨[.dat (.slice .str) x2, .dat tI (0 : Int)], []⟩)) := hdEq (by kernel_rfl)
theorem f48_run (a0 : Prgm) (a1 : Int) : I48.run ⟨[.dat tPrgm a0, .dat tI a1], []⟩ = (cond (a1 == a0.2.2.2.2) (some ⟨[.dat tI a0.2.2.2.1], []⟩) (cond (decide ((0 : Int) ≤ a1)) (cond (decide (a1 < ((List.length a0.1 : Nat) : Int))) (cond (decide ((0 : Int) ≤ (wrap .i64 (a1 + (1 : Int))))) (cond (decide ((wrap .i64 (a1 + (1 : Int))) < ((List.length a0.1 : Nat) : Int))) (cond (!((List.getD a0.1 (Int.toNat a1) (Tc.dflt tItem)).2.1 == (List.getD a0.1 (Int.toNat (wrap .i64 (a1 + (1 : Int)))) (Tc.dflt tItem)).2.1)) (some ⟨[.dat tI a0.2.1], []⟩) (some ⟨[.dat tI a0.2.2.1], []⟩)) none) none) none) none)) := (I48.run_eq _).trans (by kernel_rfl)
noncomputable def f15h0 (x0 : Int) (x1 : (List Item)) (x2 : Int) (x3 : Int) (x4 : (List Item)) (x5 : Int) (x6 : Int) (x7 : Int) (x8 : Int) (x9 : (List Timed)) : Option Fr := I15.hd 0 (mkF 45 [(1, .dat tI x0), (2, .ptr 500 0), (5, .slc 501), (9, .dat (.slice tItem) x1), (10, .dat tI x2), (11, .dat tI x3)] [(500, .box [.dat (.slice tItem) x4, .dat tI x5, .dat tI x6, .dat tI x7, .dat tI x8]), (501, .arr tTimed x9)])
theorem f15_run (a0 : Prgm) (a1 : Int) : I15.run ⟨[.dat tPrgm a0, .dat tI a1], []⟩ = (f15h0 a1 a0.1 ((List.length a0.1 : Nat) : Int) (0 : Int) a0.1 a0.2.1 a0.2.2.1 a0.2.2.2.1 a0.2.2.2.2 ([] : List Timed)) := (I15.run_eq _).trans (by kernel_rfl)
theorem f15h0_eq (x0 : Int) (x1 : (List Item)) (x2 : Int) (x3 : Int) (x4 : (List Item)) (x5 : Int) (x6 : Int) (x7 : Int) (x8 : Int) (x9 : (List Timed)) : f15h0 x0 x1 x2 x3 x4 x5 x6 x7 x8 x9 = (cond (decide (x3 < x2)) (cond (decide ((0 : Int) ≤ x3)) (cond (decide (x3 < ((List.length x1 : Nat) : Int))) (cond (decide ((List.length x9 + List.length ([((List.getD x1 (Int.toNat x3) (Tc.dflt tItem)).1, (x0, (wrap .i64 (x0 + (List.getD x1 (Int.toNat x3) (Tc.dflt tItem)).2.2.1))))] : List Timed)) * 32 ≤ 140737488355328)) (cond (decide ((wrap .i64 (x3 + (1 : Int))) < ((List.length x4 : Nat) : Int))) (cond (decide (0 ≤ x3) && decide (x3 + 1 < (List.length (x4, (x5, (x6, (x7, x8)))).1 : Int)) && decide (List.length (x4, (x5, (x6, (x7, x8)))).1 ≤ 1000)) (f15h0 (wrap .i64 ((wrap .i64 (x0 + (List.getD x1 (Int.toNat x3) (Tc.dflt tItem)).2.2.1)) + (behindF (x4, (x5, (x6, (x7, x8)))) x3))) x1 x2 (wrap .i64 (x3 + (1 : Int))) x4 x5 x6 x7 x8 (x9 ++ ([((List.getD x1 (Int.toNat x3) (Tc.dflt tItem)).1, (x0, (wrap .i64 (x0 + (List.getD x1 (Int.toNat x3) (Tc.dflt tItem)).2.2.1))))] : List Timed))) none) (f15h0 (wrap .i64 (x0 + (List.getD x1 (Int.toNat x3) (Tc.dflt tItem)).2.2.1)) x1 x2 (wrap .i64 (x3 + (1 : Int))) x4 x5 x6 x7 x8 (x9 ++ ([((List.getD x1 (Int.toNat x3) (Tc.dflt tItem)).1, (x0, (wrap .i64 (x0 + (List.getD x1 (Int.toNat x3) (Tc.dflt tItem)).2.2.1))))] : List Timed)))) none) none) none) (some ⟨[.slc 0], [(0, .arr tTimed x9)]⟩)) := hdEq (by kernel_rfl)
theorem f13_run (a0 : Prgm) : I13.run ⟨[.dat tPrgm a0], []⟩ = (cond (decide (List.length (a0.1, (a0.2.1, (a0.2.2.1, (a0.2.2.2.1, a0.2.2.2.2)))).1 ≤ 1000)) (cond (((List.length (timGo (a0.1, (a0.2.1, (a0.2.2.1, (a0.2.2.2.1, a0.2.2.2.2)))) 0 (0 : Int) (a0.1, (a0.2.1, (a0.2.2.1, (a0.2.2.2.1, a0.2.2.2.2)))).1) : Nat) : Int) == (0 : Int)) (some ⟨[.dat tI (0 : Int)], []⟩) (cond (decide ((0 : Int) ≤ (wrap .i64 (((List.length (timGo (a0.1, (a0.2.1, (a0.2.2.1, (a0.2.2.2.1, a0.2.2.2.2)))) 0 (0 : Int) (a0.1, (a0.2.1, (a0.2.2.1, (a0.2.2.2.1, a0.2.2.2.2)))).1) : Nat) : Int) - (1 : Int))))) (cond (decide ((wrap .i64 (((List.length (timGo (a0.1, (a0.2.1, (a0.2.2.1, (a0.2.2.2.1, a0.2.2.2.2)))) 0 (0 : Int) (a0.1, (a0.2.1, (a0.2.2.1, (a0.2.2.2.1, a0.2.2.2.2)))).1) : Nat) : Int) - (1 : Int))) < ((List.length (timGo (a0.1, (a0.2.1, (a0.2.2.1, (a0.2.2.2.1, a0.2.2.2.2)))) 0 (0 : Int) (a0.1, (a0.2.1, (a0.2.2.1, (a0.2.2.2.1, a0.2.2.2.2)))).1) : Nat) : Int))) (cond (decide ((Int.toNat (wrap .i64 (((List.length (timGo (a0.1, (a0.2.1, (a0.2.2.1, (a0.2.2.2.1, a0.2.2.2.2)))) 0 (0 : Int) (a0.1, (a0.2.1, (a0.2.2.1, (a0.2.2.2.1, a0.2.2.2.2)))).1) : Nat) : Int) - (1 : Int)))) < List.length (timGo (a0.1, (a0.2.1, (a0.2.2.1, (a0.2.2.2.1, a0.2.2.2.2)))) 0 (0 : Int) (a0.1, (a0.2.1, (a0.2.2.1, (a0.2.2.2.1, a0.2.2.2.2)))).1))) (cond (decide ((Int.toNat (wrap .i64 (((List.length (timGo (a0.1, (a0.2.1, (a0.2.2.1, (a0.2.2.2.1, a0.2.2.2.2)))) 0 (0 : Int) (a0.1, (a0.2.1, (a0.2.2.1, (a0.2.2.2.1, a0.2.2.2.2)))).1) : Nat) : Int) - (1 : Int)))) < List.length (timGo (a0.1, (a0.2.1, (a0.2.2.1, (a0.2.2.2.1, a0.2.2.2.2)))) 0 (0 : Int) (a0.1, (a0.2.1, (a0.2.2.1, (a0.2.2.2.1, a0.2.2.2.2)))).1))) (cond (decide ((Int.toNat (wrap .i64 (((List.length (timGo (a0.1, (a0.2.1, (a0.2.2.1, (a0.2.2.2.1, a0.2.2.2.2)))) 0 (0 : Int) (a0.1, (a0.2.1, (a0.2.2.1, (a0.2.2.2.1, a0.2.2.2.2)))).1) : Nat) : Int) - (1 : Int)))) < List.length (timGo (a0.1, (a0.2.1, (a0.2.2.1, (a0.2.2.2.1, a0.2.2.2.2)))) 0 (0 : Int) (a0.1, (a0.2.1, (a0.2.2.1, (a0.2.2.2.1, a0.2.2.2.2)))).1))) (some ⟨[.dat tI (List.getD (timGo (a0.1, (a0.2.1, (a0.2.2.1, (a0.2.2.2.1, a0.2.2.2.2)))) 0 (0 : Int) (a0.1, (a0.2.1, (a0.2.2.1, (a0.2.2.2.1, a0.2.2.2.2)))).1) (Int.toNat (wrap .i64 (((List.length (timGo (a0.1, (a0.2.1, (a0.2.2.1, (a0.2.2.2.1, a0.2.2.2.2)))) 0 (0 : Int) (a0.1, (a0.2.1, (a0.2.2.1, (a0.2.2.2.1, a0.2.2.2.2)))).1) : Nat) : Int) - (1 : Int)))) (Tc.dflt tTimed)).2.2], []⟩) none) none) none) none) none)) none) := (I13.run_eq _).trans (by kernel_rfl)
noncomputable def f38h0 (x0 : Int) (x1 : Int) (x2 : Int) (x3 : Int) (x4 : Int) (x5 : (List Item)) (x6 : Int) (x7 : Int) (x8 : Int) (x9 : Int) (x10 : (List Int)) : Option Fr := I38.hd 0 (mkF 106 [(1, .dat tI x0), (2, .ptr 500 0), (5, .slc 501), (6, .dat tI x1), (7, .dat tI x2), (22, .dat tI x3), (23, .dat tI x4)] [(500, .box [.dat (.slice tItem) x5, .dat tI x6, .dat tI x7, .dat tI x8, .dat tI x9]), (501, .arr tI x10)])
noncomputable def f38h2 (x0 : Int) (x1 : Int) (x2 : Int) (x3 : Int) (x4 : Int) (x5 : Int) (x6 : (List Item)) (x7 : Int) (x8 : Int) (x9 : (List Item)) (x10 : Int) (x11 : Int) (x12 : Int) (x13 : Int) (x14 : (List Int)) (x15 : Int) (x16 : Int) (x17 : Int) (x18 : Int) (x19 : (List Int)) : Option Fr := I38.hd 2 (mkF 106 [(1, .dat tI x0), (2, .ptr 500 0), (5, .slc 501), (6, .dat tI x1), (7, .dat tI x2), (8, .dat tI x3), (9, .ptr 502 0), (10, .slc 503), (22, .dat tI x4), (23, .dat tI x5), (29, .dat (.slice tItem) x6), (30, .dat tI x7), (31, .dat tI x8)] [(500, .box [.dat (.slice tItem) x9, .dat tI x10, .dat tI x11, .dat tI x12, .dat tI x13]), (501, .arr tI x14), (502, .box [.nil0, .dat tI x15, .dat tI x16, .dat tI x17, .dat tI x18]), (503, .arr tI x19)])
noncomputable def f38h4 (x0 : Int) (x1 : Int) (x2 : (List Item)) (x3 : Int) (x4 : Int) (x5 : Int) (x6 : Int) (x7 : (List Bytes)) (x8 : (List Int)) : Option Fr := I38.hd 4 (mkF 106 [(2, .ptr 500 0), (15, .slc 501), (89, .slc 502), (90, .dat tI x0), (91, .dat tI x1)] [(500, .box [.dat (.slice tItem) x2, .dat tI x3, .dat tI x4, .dat tI x5, .dat tI x6]), (501, .arr .str x7), (502, .arr tI x8)])
noncomputable def f38h2x1 (x0 : Int) (x1 : Int) (x2 : Int) (x3 : Int) (x4 : Int) (x5 : Int) (x6 : (List Item)) (x7 : Int) (x8 : Int) (x9 : (List Item)) (x10 : Int) (x11 : Int) (x12 : Int) (x13 : Int) (x14 : (List Int)) (x15 : Int) (x16 : Int) (x17 : Int) (x18 : Int) (x19 : (List Int)) (x20 : (List Item)) : Option Fr := I38.hd 2 (mkF 106 [(1, .dat tI x0), (2, .ptr 500 0), (5, .slc 501), (6, .dat tI x1), (7, .dat tI x2), (8, .dat tI x3), (9, .ptr 502 0), (10, .slc 503), (22, .dat tI x4), (23, .dat tI x5), (29, .dat (.slice tItem) x6), (30, .dat tI x7), (31, .dat tI x8)] [(500, .box [.dat (.slice tItem) x9, .dat tI x10, .dat tI x11, .dat tI x12, .dat tI x13]), (501, .arr tI x14), (502, .box [.slc 504, .dat tI x15, .dat tI x16, .dat tI x17, .dat tI x18]), (503, .arr tI x19), (504, .arr tItem x20)])
theorem f38_run (a0 : Prgm) (a1 : Int) : I38.run ⟨[.dat tPrgm a0, .dat tI a1], []⟩ = (cond (decide (((List.length a0.1 : Nat) : Int) < 0)) none (f38h0 a1 (0 : Int) (0 : Int) (wrap .i64 ((1 : Int) * 2 ^ (min (Int.toNat ((List.length a0.1 : Nat) : Int)) (IntKind.bits .i64)))) (0 : Int) a0.1 a0.2.1 a0.2.2.1 a0.2.2.2.1 (-1 : Int) ([] : List Int))) := (I38.run_eq _).trans (by kernel_rfl)
theorem f38h0_eq (x0 : Int) (x1 : Int) (x2 : Int) (x3 : Int) (x4 : Int) (x5 : (List Item)) (x6 : Int) (x7 : Int) (x8 : Int) (x9 : Int) (x10 : (List Int)) : f38h0 x0 x1 x2 x3 x4 x5 x6 x7 x8 x9 x10 = (cond (decide (x4 < x3)) (f38h2 x0 x1 x2 x4 x3 x4 x5 ((List.length x5 : Nat) : Int) (0 : Int) x5 x6 x7 x8 x9 x10 x6 x7 x8 x9 ([] : List Int)) (f38h4 ((List.length x10 : Nat) : Int) (0 : Int) x5 x6 x7 x8 x9 ([] : List Bytes) x10)) := hdEq (by kernel_rfl)
theorem f38h2_eq (x0 : Int) (x1 : Int) (x2 : Int) (x3 : Int) (x4 : Int) (x5 : Int) (x6 : (List Item)) (x7 : Int) (x8 : Int) (x9 : (List Item)) (x10 : Int) (x11 : Int) (x12 : Int) (x13 : Int) (x14 : (List Int)) (x15 : Int) (x16 : Int) (x17 : Int) (x18 : Int) (x19 : (List Int)) : f38h2 x0 x1 x2 x3 x4 x5 x6 x7 x8 x9 x10 x11 x12 x13 x14 x15 x16 x17 x18 x19 = (cond (decide (x8 < x7)) (cond (decide ((0 : Int) ≤ x8)) (cond (decide (x8 < ((List.length x6 : Nat) : Int))) (cond (decide (x8 < 0)) none (cond ((wrap .i64 ((BitVec.ofInt (IntKind.bits .i64) (Int.fdiv x3 (2 ^ (min (Int.toNat x8) (IntKind.bits .i64)))) &&& BitVec.ofInt (IntKind.bits .i64) (1 : Int)).toNat : Int)) == (1 : Int)) (cond (decide (List.length ([((List.getD x6 (Int.toNat x8) (Tc.dflt tItem)).1, ((List.getD x6 (Int.toNat x8) (Tc.dflt tItem)).2.1, ((List.getD x6 (Int.toNat x8) (Tc.dflt tItem)).2.2.1, (List.getD x6 (Int.toNat x8) (Tc.dflt tItem)).2.2.2)))] : List Item) * 64 ≤ 140737488355328)) (cond (decide ((List.length x19 + List.length [x8]) * 8 ≤ 140737488355328)) (f38h2x1 x0 x1 x2 x3 x4 x5 x6 x7 (wrap .i64 (x8 + (1 : Int))) x9 x10 x11 x12 x13 x14 x15 x16 x17 x18 (x19 ++ [x8]) ([((List.getD x6 (Int.toNat x8) (Tc.dflt tItem)).1, ((List.getD x6 (Int.toNat x8) (Tc.dflt tItem)).2.1, ((List.getD x6 (Int.toNat x8) (Tc.dflt tItem)).2.2.1, (List.getD x6 (Int.toNat x8) (Tc.dflt tItem)).2.2.2)))] : List Item)) none) none) (f38h2 x0 x1 x2 x3 x4 x5 x6 x7 (wrap .i64 (x8 + (1 : Int))) x9 x10 x11 x12 x13 x14 x15 x16 x17 x18 x19))) none) none) (cond (decide (List.length (([] : List Item), (x15, (x16, (x17, x18)))).1 ≤ 1000)) (cond (decide ((longR (([] : List Item), (x15, (x16, (x17, x18))))) ≤ x0)) (cond (decide (((List.length x19 : Nat) : Int) > x1)) (f38h0 x0 ((List.length x19 : Nat) : Int) (longR (([] : List Item), (x15, (x16, (x17, x18))))) x4 (wrap .i64 (x5 + (1 : Int))) x9 x10 x11 x12 x13 x19) (cond (((List.length x19 : Nat) : Int) == x1) (cond (decide ((longR (([] : List Item), (x15, (x16, (x17, x18))))) > x2)) (f38h0 x0 ((List.length x19 : Nat) : Int) (longR (([] : List Item), (x15, (x16, (x17, x18))))) x4 (wrap .i64 (x5 + (1 : Int))) x9 x10 x11 x12 x13 x19) (cond ((longR (([] : List Item), (x15, (x16, (x17, x18))))) == x2) (cond (decide (List.length x19 ≤ 1000)) (cond (decide ((cmpGo x19 x14) < (0 : Int))) (f38h0 x0 ((List.length x19 : Nat) : Int) (longR (([] : List Item), (x15, (x16, (x17, x18))))) x4 (wrap .i64 (x5 + (1 : Int))) x9 x10 x11 x12 x13 x19) (f38h0 x0 x1 x2 x4 (wrap .i64 (x5 + (1 : Int))) x9 x10 x11 x12 x13 x14)) none) (f38h0 x0 x1 x2 x4 (wrap .i64 (x5 + (1 : Int))) x9 x10 x11 x12 x13 x14))) (f38h0 x0 x1 x2 x4 (wrap .i64 (x5 + (1 : Int))) x9 x10 x11 x12 x13 x14))) (f38h0 x0 x1 x2 x4 (wrap .i64 (x5 + (1 : Int))) x9 x10 x11 x12 x13 x14)) none)) := hdEq (by kernel_rfl)
theorem f38h4_eq (x0 : Int) (x1 : Int) (x2 : (List Item)) (x3 : Int) (x4 : Int) (x5 : Int) (x6 : Int) (x7 : (List Bytes)) (x8 : (List Int)) : f38h4 x0 x1 x2 x3 x4 x5 x6 x7 x8 = (cond (decide (x1 < x0)) (cond (decide ((0 : Int) ≤ x1)) (cond (decide (x1 < ((List.length x8 : Nat) : Int))) (cond (decide ((Int.toNat x1) < List.length x8)) (cond (decide ((0 : Int) ≤ (List.getD x8 (Int.toNat x1) (Tc.dflt tI)))) (cond (decide ((List.getD x8 (Int.toNat x1) (Tc.dflt tI)) < ((List.length x2 : Nat) : Int))) (cond (decide ((List.length x7 + List.length ([(List.getD x2 (Int.toNat (List.getD x8 (Int.toNat x1) (Tc.dflt tI))) (Tc.dflt tItem)).1] : List Bytes)) * 16 ≤ 140737488355328)) (f38h4 x0 (wrap .i64 (x1 + (1 : Int))) x2 x3 x4 x5 x6 (x7 ++ ([(List.getD x2 (Int.toNat (List.getD x8 (Int.toNat x1) (Tc.dflt tI))) (Tc.dflt tItem)).1] : List Bytes)) x8) none) none) none) none) none) none) (some ⟨[.dat (.slice .str) x7], []⟩)) := hdEq (by kernel_rfl)
theorem f38h2x1_eq (x0 : Int) (x1 : Int) (x2 : Int) (x3 : Int) (x4 : Int) (x5 : Int) (x6 : (List Item)) (x7 : Int) (x8 : Int) (x9 : (List Item)) (x10 : Int) (x11 : Int) (x12 : Int) (x13 : Int) (x14 : (List Int)) (x15 : Int) (x16 : Int) (x17 : Int) (x18 : Int) (x19 : (List Int)) (x20 : (List Item)) : f38h2x1 x0 x1 x2 x3 x4 x5 x6 x7 x8 x9 x10 x11 x12 x13 x14 x15 x16 x17 x18 x19 x20 = (cond (decide (x8 < x7)) (cond (decide ((0 : Int) ≤ x8)) (cond (decide (x8 < ((List.length x6 : Nat) : Int))) (cond (decide (x8 < 0)) none (cond ((wrap .i64 ((BitVec.ofInt (IntKind.bits .i64) (Int.fdiv x3 (2 ^ (min (Int.toNat x8) (IntKind.bits .i64)))) &&& BitVec.ofInt (IntKind.bits .i64) (1 : Int)).toNat : Int)) == (1 : Int)) (cond (decide ((List.length x20 + List.length ([((List.getD x6 (Int.toNat x8) (Tc.dflt tItem)).1, ((List.getD x6 (Int.toNat x8) (Tc.dflt tItem)).2.1, ((List.getD x6 (Int.toNat x8) (Tc.dflt tItem)).2.2.1, (List.getD x6 (Int.toNat x8) (Tc.dflt tItem)).2.2.2)))] : List Item)) * 64 ≤ 140737488355328)) (cond (decide ((List.length x19 + List.length [x8]) * 8 ≤ 140737488355328)) (f38h2x1 x0 x1 x2 x3 x4 x5 x6 x7 (wrap .i64 (x8 + (1 : Int))) x9 x10 x11 x12 x13 x14 x15 x16 x17 x18 (x19 ++ [x8]) (x20 ++ ([((List.getD x6 (Int.toNat x8) (Tc.dflt tItem)).1, ((List.getD x6 (Int.toNat x8) (Tc.dflt tItem)).2.1, ((List.getD x6 (Int.toNat x8) (Tc.dflt tItem)).2.2.1, (List.getD x6 (Int.toNat x8) (Tc.dflt tItem)).2.2.2)))] : List Item))) none) none) (f38h2x1 x0 x1 x2 x3 x4 x5 x6 x7 (wrap .i64 (x8 + (1 : Int))) x9 x10 x11 x12 x13 x14 x15 x16 x17 x18 x19 x20))) none) none) (cond (decide (List.length (x20, (x15, (x16, (x17, x18)))).1 ≤ 1000)) (cond (decide ((longR (x20, (x15, (x16, (x17, x18))))) ≤ x0)) (cond (decide (((List.length x19 : Nat) : Int) > x1)) (f38h0 x0 ((List.length x19 : Nat) : Int) (longR (x20, (x15, (x16, (x17, x18))))) x4 (wrap .i64 (x5 + (1 : Int))) x9 x10 x11 x12 x13 x19) (cond (((List.length x19 : Nat) : Int) == x1) (cond (decide ((longR (x20, (x15, (x16, (x17, x18))))) > x2)) (f38h0 x0 ((List.length x19 : Nat) : Int) (longR (x20, (x15, (x16, (x17, x18))))) x4 (wrap .i64 (x5 + (1 : Int))) x9 x10 x11 x12 x13 x19) (cond ((longR (x20, (x15, (x16, (x17, x18))))) == x2) (cond (decide (List.length x19 ≤ 1000)) (cond (decide ((cmpGo x19 x14) < (0 : Int))) (f38h0 x0 ((List.length x19 : Nat) : Int) (longR (x20, (x15, (x16, (x17, x18))))) x4 (wrap .i64 (x5 + (1 : Int))) x9 x10 x11 x12 x13 x19) (f38h0 x0 x1 x2 x4 (wrap .i64 (x5 + (1 : Int))) x9 x10 x11 x12 x13 x14)) none) (f38h0 x0 x1 x2 x4 (wrap .i64 (x5 + (1 : Int))) x9 x10 x11 x12 x13 x14))) (f38h0 x0 x1 x2 x4 (wrap .i64 (x5 + (1 : Int))) x9 x10 x11 x12 x13 x14))) (f38h0 x0 x1 x2 x4 (wrap .i64 (x5 + (1 : Int))) x9 x10 x11 x12 x13 x14)) none)) := hdEq (by kernel_rfl)
theorem f77_run (a0 : Item) (lk : Bytes) (lp : Bytes) (ll : Int) (lps : (List Bytes)) (its : (List Item)) (c1 : Int) (c2 : Int) (c3 : Int) (c4 : Int) : I77.run ⟨[.dat tItem a0, .ptr 0 0, .ptr 1 0], [(0, .box [.dat .str lk, .dat .str lp, .dat tI ll, .dat (.slice .str) lps]), (1, .box [.dat (.slice tItem) its, .dat tI c1, .dat tI c2, .dat tI c3, .dat tI c4])]⟩ = (cond (!(a0.2.1 == lp)) (some ⟨[.dat tI (wrap .i64 (a0.2.2.1 + c1))], [(0, .box [.dat .str lk, .dat .str lp, .dat tI ll, .dat (.slice .str) lps]), (1, .box [.dat (.slice tItem) its, .dat tI c1, .dat tI c2, .dat tI c3, .dat tI c4])]⟩) (some ⟨[.dat tI (wrap .i64 (a0.2.2.1 + c2))], [(0, .box [.dat .str lk, .dat .str lp, .dat tI ll, .dat (.slice .str) lps]), (1, .box [.dat (.slice tItem) its, .dat tI c1, .dat tI c2, .dat tI c3, .dat tI c4])]⟩)) := (I77.run_eq _).trans (by kernel_rfl)
theorem f79_run (a0 : Item) (lf : Int) (lk : Bytes) (lp : Bytes) (ll : Int) (lps : (List Bytes)) (its : (List Item)) (c1 : Int) (c2 : Int) (c3 : Int) (c4 : Int) : I79.run ⟨[.dat tItem a0, .ptr 0 0, .ptr 1 0], [(0, .box [.clos 77 [.ptr 2 0, .ptr 3 0]]), (1, .box [.dat tI lf]), (2, .box [.dat .str lk, .dat .str lp, .dat tI ll, .dat (.slice .str) lps]), (3, .box [.dat (.slice tItem) its, .dat tI c1, .dat tI c2, .dat tI c3, .dat tI c4])]⟩ = (some ⟨[.dat .bool (decide ((t77_0 (a0.1, (a0.2.1, (a0.2.2.1, a0.2.2.2))) lk lp ll lps its c1 c2 c3 c4) > lf))], [(0, .box [.clos 77 [.ptr 2 0, .ptr 3 0]]), (1, .box [.dat tI lf]), (2, .box [.dat .str lk, .dat .str lp, .dat tI ll, .dat (.slice .str) lps]), (3, .box [.dat (.slice tItem) its, .dat tI c1, .dat tI c2, .dat tI c3, .dat tI c4])]⟩) := (I79.run_eq _).trans (by kernel_rfl)
noncomputable def f88bh0 (x0 : Int) (x1 : Int) (x2 : (List Item)) (x3 : Int) (x4 : Bytes) (x5 : Bytes) (x6 : Int) (x7 : (List Bytes)) (x8 : (List Item)) (x9 : Int) (x10 : Int) (x11 : Int) (x12 : Int) : Option Fr := I88b.hd 0 (mkF 19 [(0, .slc 0), (1, .clos 79 [.ptr 1 0, .ptr 2 0]), (7, .dat tI x0), (8, .dat tI x1)] [(0, .arr tItem x2), (1, .box [.clos 77 [.ptr 3 0, .ptr 4 0]]), (2, .box [.dat tI x3]), (3, .box [.dat .str x4, .dat .str x5, .dat tI x6, .dat (.slice .str) x7]), (4, .box [.dat (.slice tItem) x8, .dat tI x9, .dat tI x10, .dat tI x11, .dat tI x12])])
theorem f88b_run (a0 : (List Item)) (lf : Int) (lk : Bytes) (lp : Bytes) (ll : Int) (lps : (List Bytes)) (its : (List Item)) (c1 : Int) (c2 : Int) (c3 : Int) (c4 : Int) : I88b.run ⟨[.slc 0, .clos 79 [.ptr 1 0, .ptr 2 0]], [(0, .arr tItem a0), (1, .box [.clos 77 [.ptr 3 0, .ptr 4 0]]), (2, .box [.dat tI lf]), (3, .box [.dat .str lk, .dat .str lp, .dat tI ll, .dat (.slice .str) lps]), (4, .box [.dat (.slice tItem) its, .dat tI c1, .dat tI c2, .dat tI c3, .dat tI c4])]⟩ = (f88bh0 ((List.length a0 : Nat) : Int) (0 : Int) a0 lf lk lp ll lps its c1 c2 c3 c4) := (I88b.run_eq _).trans (by kernel_rfl)
theorem f88bh0_eq (x0 : Int) (x1 : Int) (x2 : (List Item)) (x3 : Int) (x4 : Bytes) (x5 : Bytes) (x6 : Int) (x7 : (List Bytes)) (x8 : (List Item)) (x9 : Int) (x10 : Int) (x11 : Int) (x12 : Int) : f88bh0 x0 x1 x2 x3 x4 x5 x6 x7 x8 x9 x10 x11 x12 = (cond (decide (x1 < x0)) (cond (decide ((0 : Int) ≤ x1)) (cond (decide (x1 < ((List.length x2 : Nat) : Int))) (cond (decide ((Int.toNat x1) < List.length x2)) (cond (t79_0 (List.getD x2 (Int.toNat x1) (Tc.dflt tItem)) x3 x4 x5 x6 x7 x8 x9 x10 x11 x12) (some ⟨[.dat tI x1], [(0, .arr tItem x2), (1, .box [.clos 77 [.ptr 3 0, .ptr 4 0]]), (2, .box [.dat tI x3]), (3, .box [.dat .str x4, .dat .str x5, .dat tI x6, .dat (.slice .str) x7]), (4, .box [.dat (.slice tItem) x8, .dat tI x9, .dat tI x10, .dat tI x11, .dat tI x12])]⟩) (f88bh0 x0 (wrap .i64 (x1 + (1 : Int))) x2 x3 x4 x5 x6 x7 x8 x9 x10 x11 x12)) none) none) none) (some ⟨[.dat tI (-1 : Int)], [(0, .arr tItem x2), (1, .box [.clos 77 [.ptr 3 0, .ptr 4 0]]), (2, .box [.dat tI x3]), (3, .box [.dat .str x4, .dat .str x5, .dat tI x6, .dat (.slice .str) x7]), (4, .box [.dat (.slice tItem) x8, .dat tI x9, .dat tI x10, .dat tI x11, .dat tI x12])]⟩)) := hdEq (by kernel_rfl)
noncomputable def f78h0 (x0 : Int) (x1 : Int) (x2 : (List Item)) (x3 : Int) (x4 : Bytes) (x5 : Bytes) (x6 : Int) (x7 : (List Bytes)) (x8 : (List Item)) (x9 : Int) (x10 : Int) (x11 : Int) (x12 : Int) : Option Fr := I78.hd 0 (mkF 42 [(0, .slc 0), (1, .clos 79 [.ptr 1 0, .ptr 2 0]), (5, .dat tI x0), (6, .dat tI x1)] [(0, .arr tItem x2), (1, .box [.clos 77 [.ptr 3 0, .ptr 4 0]]), (2, .box [.dat tI x3]), (3, .box [.dat .str x4, .dat .str x5, .dat tI x6, .dat (.slice .str) x7]), (4, .box [.dat (.slice tItem) x8, .dat tI x9, .dat tI x10, .dat tI x11, .dat tI x12])])
theorem f78_run (a0 : (List Item)) (lf : Int) (lk : Bytes) (lp : Bytes) (ll : Int) (lps : (List Bytes)) (its : (List Item)) (c1 : Int) (c2 : Int) (c3 : Int) (c4 : Int) : I78.run ⟨[.slc 0, .clos 79 [.ptr 1 0, .ptr 2 0]], [(0, .arr tItem a0), (1, .box [.clos 77 [.ptr 3 0, .ptr 4 0]]), (2, .box [.dat tI lf]), (3, .box [.dat .str lk, .dat .str lp, .dat tI ll, .dat (.slice .str) lps]), (4, .box [.dat (.slice tItem) its, .dat tI c1, .dat tI c2, .dat tI c3, .dat tI c4])]⟩ = (cond (decide (List.length a0 ≤ 1000)) (cond ((idxBy (fun o => t79_0 o lf lk lp ll lps its c1 c2 c3 c4) a0 0) == (-1 : Int)) (some ⟨[.slc 10], [(0, .dead), (1, .box [.clos 77 [.ptr 3 0, .ptr 4 0]]), (2, .box [.dat tI (lf)]), (3, .box [.dat .str (lk), .dat .str (lp), .dat tI (ll), .dat (.slice .str) (lps)]), (4, .box [.dat (.slice tItem) (its), .dat tI (c1), .dat tI (c2), .dat tI (c3), .dat tI (c4)]), (10, .arr tItem (a0))]⟩) (f78h0 (idxBy (fun o => t79_0 o lf lk lp ll lps its c1 c2 c3 c4) a0 0) (wrap .i64 ((idxBy (fun o => t79_0 o lf lk lp ll lps its c1 c2 c3 c4) a0 0) + (1 : Int))) (a0) (lf) (lk) (lp) (ll) (lps) (its) (c1) (c2) (c3) (c4))) none) := (I78.run_eq _).trans (by kernel_rfl)
theorem f78h0_eq (x0 : Int) (x1 : Int) (x2 : (List Item)) (x3 : Int) (x4 : Bytes) (x5 : Bytes) (x6 : Int) (x7 : (List Bytes)) (x8 : (List Item)) (x9 : Int) (x10 : Int) (x11 : Int) (x12 : Int) : f78h0 x0 x1 x2 x3 x4 x5 x6 x7 x8 x9 x10 x11 x12 = (cond (decide (x1 < ((List.length x2 : Nat) : Int))) (cond (decide ((0 : Int) ≤ x1)) (cond (decide (x1 < ((List.length x2 : Nat) : Int))) (cond (decide ((Int.toNat x1) < List.length x2)) (cond (!(t79_0 ((List.getD x2 (Int.toNat x1) (Tc.dflt tItem)).1, ((List.getD x2 (Int.toNat x1) (Tc.dflt tItem)).2.1, ((List.getD x2 (Int.toNat x1) (Tc.dflt tItem)).2.2.1, (List.getD x2 (Int.toNat x1) (Tc.dflt tItem)).2.2.2))) x3 x4 x5 x6 x7 x8 x9 x10 x11 x12)) (cond (decide ((0 : Int) ≤ x0)) (cond (decide (x0 < ((List.length x2 : Nat) : Int))) (cond (decide ((Int.toNat x0) < List.length x2)) (f78h0 (wrap .i64 (x0 + (1 : Int))) (wrap .i64 (x1 + (1 : Int))) (List.set x2 (Int.toNat x0) ((List.getD x2 (Int.toNat x1) (Tc.dflt tItem)).1, ((List.getD x2 (Int.toNat x1) (Tc.dflt tItem)).2.1, ((List.getD x2 (Int.toNat x1) (Tc.dflt tItem)).2.2.1, (List.getD x2 (Int.toNat x1) (Tc.dflt tItem)).2.2.2)))) x3 x4 x5 x6 x7 x8 x9 x10 x11 x12) none) none) none) (f78h0 x0 (wrap .i64 (x1 + (1 : Int))) x2 x3 x4 x5 x6 x7 x8 x9 x10 x11 x12)) none) none) none) (cond (decide ((0 : Int) ≤ x0)) (cond (decide (x0 < ((List.length x2 : Nat) : Int))) (cond (decide ((Int.toNat x0) < List.length x2)) (cond (decide ((0 : Int) ≤ (0 : Int))) (cond (decide ((0 : Int) ≤ x0)) (cond (decide (x0 ≤ ((List.length (List.take (Int.toNat x0) x2 ++ List.replicate (List.length x2 - (Int.toNat x0)) (Tc.dflt tItem)) : Nat) : Int))) (some ⟨[.slc 10], [(0, .dead), (1, .box [.clos 77 [.ptr 3 0, .ptr 4 0]]), (2, .box [.dat tI x3]), (3, .box [.dat .str x4, .dat .str x5, .dat tI x6, .dat (.slice .str) x7]), (4, .box [.dat (.slice tItem) x8, .dat tI x9, .dat tI x10, .dat tI x11, .dat tI x12]), (10, .arr tItem (List.drop (Int.toNat (0 : Int)) (List.take (Int.toNat x0) (List.take (Int.toNat x0) x2 ++ List.replicate (List.length x2 - (Int.toNat x0)) (Tc.dflt tItem)))))]⟩) none) none) none) none) none) none)) := hdEq (by kernel_rfl)
theorem f82_run (a0 : Int) : I82.run ⟨[.dat tI a0], []⟩ = (cond (decide (a0 < (0 : Int))) (some ⟨[.dat tI (-1 : Int)], []⟩) (cond (decide (a0 > (0 : Int))) (some ⟨[.dat tI (1 : Int)], []⟩) (some ⟨[.dat tI (0 : Int)], []⟩))) := (I82.run_eq _).trans (by kernel_rfl)
theorem f81_run (a0 : Item) (a1 : Item) (lk : Bytes) (lp : Bytes) (ll : Int) (lps : (List Bytes)) (its : (List Item)) (c1 : Int) (c2 : Int) (c3 : Int) (c4 : Int) : I81.run ⟨[.dat tItem a0, .dat tItem a1, .ptr 0 0], [(0, .box [.clos 77 [.ptr 1 0, .ptr 2 0]]), (1, .box [.dat .str lk, .dat .str lp, .dat tI ll, .dat (.slice .str) lps]), (2, .box [.dat (.slice tItem) its, .dat tI c1, .dat tI c2, .dat tI c3, .dat tI c4])]⟩ = (some ⟨[.dat tI (t82_0 (wrap .i64 ((t77_0 (a1.1, (a1.2.1, (a1.2.2.1, a1.2.2.2))) lk lp ll lps its c1 c2 c3 c4) - (t77_0 (a0.1, (a0.2.1, (a0.2.2.1, a0.2.2.2))) lk lp ll lps its c1 c2 c3 c4))))], [(0, .box [.clos 77 [.ptr 1 0, .ptr 2 0]]), (1, .box [.dat .str lk, .dat .str lp, .dat tI ll, .dat (.slice .str) lps]), (2, .box [.dat (.slice tItem) its, .dat tI c1, .dat tI c2, .dat tI c3, .dat tI c4])]⟩) := (I81.run_eq _).trans (by kernel_rfl)
noncomputable def f114h0 (x0 : Int) (x1 : Int) (x2 : Int) (x3 : (List Item)) (x4 : Bytes) (x5 : Bytes) (x6 : Int) (x7 : (List Bytes)) (x8 : (List Item)) (x9 : Int) (x10 : Int) (x11 : Int) (x12 : Int) : Option Fr := I114.hd 0 (mkF 53 [(0, .slc 0), (1, .dat tI x0), (2, .dat tI x1), (3, .clos 81 [.ptr 1 0]), (8, .dat tI x2)] [(0, .arr tItem x3), (1, .box [.clos 77 [.ptr 2 0, .ptr 3 0]]), (2, .box [.dat .str x4, .dat .str x5, .dat tI x6, .dat (.slice .str) x7]), (3, .box [.dat (.slice tItem) x8, .dat tI x9, .dat tI x10, .dat tI x11, .dat tI x12])])
noncomputable def f114h2 (x0 : Int) (x1 : Int) (x2 : Int) (x3 : Int) (x4 : (List Item)) (x5 : Bytes) (x6 : Bytes) (x7 : Int) (x8 : (List Bytes)) (x9 : (List Item)) (x10 : Int) (x11 : Int) (x12 : Int) (x13 : Int) : Option Fr := I114.hd 2 (mkF 53 [(0, .slc 0), (1, .dat tI x0), (2, .dat tI x1), (3, .clos 81 [.ptr 1 0]), (8, .dat tI x2), (9, .dat tI x3)] [(0, .arr tItem x4), (1, .box [.clos 77 [.ptr 2 0, .ptr 3 0]]), (2, .box [.dat .str x5, .dat .str x6, .dat tI x7, .dat (.slice .str) x8]), (3, .box [.dat (.slice tItem) x9, .dat tI x10, .dat tI x11, .dat tI x12, .dat tI x13])])
theorem f114_run (a : Int) (b : Int) (a0 : (List Item)) (lk : Bytes) (lp : Bytes) (ll : Int) (lps : (List Bytes)) (its : (List Item)) (c1 : Int) (c2 : Int) (c3 : Int) (c4 : Int) : I114.run ⟨[.slc 0, .dat tI a, .dat tI b, .clos 81 [.ptr 1 0]], [(0, .arr tItem a0), (1, .box [.clos 77 [.ptr 2 0, .ptr 3 0]]), (2, .box [.dat .str lk, .dat .str lp, .dat tI ll, .dat (.slice .str) lps]), (3, .box [.dat (.slice tItem) its, .dat tI c1, .dat tI c2, .dat tI c3, .dat tI c4])]⟩ = (f114h0 a b (wrap .i64 (a + (1 : Int))) a0 lk lp ll lps its c1 c2 c3 c4) := (I114.run_eq _).trans (by kernel_rfl)
theorem f114h0_eq (x0 : Int) (x1 : Int) (x2 : Int) (x3 : (List Item)) (x4 : Bytes) (x5 : Bytes) (x6 : Int) (x7 : (List Bytes)) (x8 : (List Item)) (x9 : Int) (x10 : Int) (x11 : Int) (x12 : Int) : f114h0 x0 x1 x2 x3 x4 x5 x6 x7 x8 x9 x10 x11 x12 = (cond (decide (x2 < x1)) (f114h2 x0 x1 x2 x2 x3 x4 x5 x6 x7 x8 x9 x10 x11 x12) (some ⟨[], [(0, .arr tItem x3), (1, .box [.clos 77 [.ptr 2 0, .ptr 3 0]]), (2, .box [.dat .str x4, .dat .str x5, .dat tI x6, .dat (.slice .str) x7]), (3, .box [.dat (.slice tItem) x8, .dat tI x9, .dat tI x10, .dat tI x11, .dat tI x12])]⟩)) := hdEq (by kernel_rfl)
theorem f114h2_eq (x0 : Int) (x1 : Int) (x2 : Int) (x3 : Int) (x4 : (List Item)) (x5 : Bytes) (x6 : Bytes) (x7 : Int) (x8 : (List Bytes)) (x9 : (List Item)) (x10 : Int) (x11 : Int) (x12 : Int) (x13 : Int) : f114h2 x0 x1 x2 x3 x4 x5 x6 x7 x8 x9 x10 x11 x12 x13 = (cond (decide (x3 > x0)) (cond (decide ((0 : Int) ≤ x3)) (cond (decide (x3 < ((List.length x4 : Nat) : Int))) (cond (decide ((Int.toNat x3) < List.length x4)) (cond (decide ((0 : Int) ≤ (wrap .i64 (x3 - (1 : Int))))) (cond (decide ((wrap .i64 (x3 - (1 : Int))) < ((List.length x4 : Nat) : Int))) (cond (decide ((Int.toNat (wrap .i64 (x3 - (1 : Int)))) < List.length x4)) (cond (decide ((t81_0 (List.getD x4 (Int.toNat x3) (Tc.dflt tItem)) (List.getD x4 (Int.toNat (wrap .i64 (x3 - (1 : Int)))) (Tc.dflt tItem)) x5 x6 x7 x8 x9 x10 x11 x12 x13) < (0 : Int))) (cond (decide ((0 : Int) ≤ (wrap .i64 (x3 - (1 : Int))))) (cond (decide ((wrap .i64 (x3 - (1 : Int))) < ((List.length x4 : Nat) : Int))) (cond (decide ((Int.toNat (wrap .i64 (x3 - (1 : Int)))) < List.length x4)) (cond (decide ((0 : Int) ≤ x3)) (cond (decide (x3 < ((List.length x4 : Nat) : Int))) (cond (decide ((Int.toNat x3) < List.length x4)) (cond (decide ((0 : Int) ≤ x3)) (cond (decide (x3 < ((List.length x4 : Nat) : Int))) (cond (decide ((Int.toNat x3) < List.length x4)) (cond (decide ((0 : Int) ≤ (wrap .i64 (x3 - (1 : Int))))) (cond (decide ((wrap .i64 (x3 - (1 : Int))) < ((List.length (List.set x4 (Int.toNat x3) (List.getD x4 (Int.toNat (wrap .i64 (x3 - (1 : Int)))) (Tc.dflt tItem))) : Nat) : Int))) (cond (decide ((Int.toNat (wrap .i64 (x3 - (1 : Int)))) < List.length (List.set x4 (Int.toNat x3) (List.getD x4 (Int.toNat (wrap .i64 (x3 - (1 : Int)))) (Tc.dflt tItem))))) (f114h2 x0 x1 x2 (wrap .i64 (x3 - (1 : Int))) (List.set (List.set x4 (Int.toNat x3) (List.getD x4 (Int.toNat (wrap .i64 (x3 - (1 : Int)))) (Tc.dflt tItem))) (Int.toNat (wrap .i64 (x3 - (1 : Int)))) (List.getD x4 (Int.toNat x3) (Tc.dflt tItem))) x5 x6 x7 x8 x9 x10 x11 x12 x13) none) none) none) none) none) none) none) none) none) none) none) none) (f114h0 x0 x1 (wrap .i64 (x2 + (1 : Int))) x4 x5 x6 x7 x8 x9 x10 x11 x12 x13)) none) none) none) none) none) none) (f114h0 x0 x1 (wrap .i64 (x2 + (1 : Int))) x4 x5 x6 x7 x8 x9 x10 x11 x12 x13)) := hdEq (by kernel_rfl)
noncomputable def f99h0 (x0 : Int) (x1 : Int) (x2 : Int) (x3 : Int) (x4 : (List Item)) (x5 : Bytes) (x6 : Bytes) (x7 : Int) (x8 : (List Bytes)) (x9 : (List Item)) (x10 : Int) (x11 : Int) (x12 : Int) (x13 : Int) : Option Fr := I99.hd 0 (mkF 63 [(0, .slc 0), (1, .dat tI x0), (2, .clos 81 [.ptr 1 0]), (6, .dat tI x1), (7, .dat tI x2), (8, .dat tI x3)] [(0, .arr tItem x4), (1, .box [.clos 77 [.ptr 2 0, .ptr 3 0]]), (2, .box [.dat .str x5, .dat .str x6, .dat tI x7, .dat (.slice .str) x8]), (3, .box [.dat (.slice tItem) x9, .dat tI x10, .dat tI x11, .dat tI x12, .dat tI x13])])
noncomputable def f99h2 (x0 : Int) (x1 : Int) (x2 : (List Item)) (x3 : Bytes) (x4 : Bytes) (x5 : Int) (x6 : (List Bytes)) (x7 : (List Item)) (x8 : Int) (x9 : Int) (x10 : Int) (x11 : Int) : Option Fr := I99.hd 2 (mkF 63 [(0, .slc 0), (1, .dat tI x0), (2, .clos 81 [.ptr 1 0]), (6, .dat tI x1)] [(0, .arr tItem x2), (1, .box [.clos 77 [.ptr 2 0, .ptr 3 0]]), (2, .box [.dat .str x3, .dat .str x4, .dat tI x5, .dat (.slice .str) x6]), (3, .box [.dat (.slice tItem) x7, .dat tI x8, .dat tI x9, .dat tI x10, .dat tI x11])])
noncomputable def f99h4 (x0 : Int) (x1 : Int) (x2 : Int) (x3 : Int) (x4 : (List Item)) (x5 : Bytes) (x6 : Bytes) (x7 : Int) (x8 : (List Bytes)) (x9 : (List Item)) (x10 : Int) (x11 : Int) (x12 : Int) (x13 : Int) : Option Fr := I99.hd 4 (mkF 63 [(0, .slc 0), (1, .dat tI x0), (2, .clos 81 [.ptr 1 0]), (6, .dat tI x1), (7, .dat tI x2), (8, .dat tI x3)] [(0, .arr tItem x4), (1, .box [.clos 77 [.ptr 2 0, .ptr 3 0]]), (2, .box [.dat .str x5, .dat .str x6, .dat tI x7, .dat (.slice .str) x8]), (3, .box [.dat (.slice tItem) x9, .dat tI x10, .dat tI x11, .dat tI x12, .dat tI x13])])
theorem f99_run (n : Int) (a0 : (List Item)) (lk : Bytes) (lp : Bytes) (ll : Int) (lps : (List Bytes)) (its : (List Item)) (c1 : Int) (c2 : Int) (c3 : Int) (c4 : Int) : I99.run ⟨[.slc 0, .dat tI n, .clos 81 [.ptr 1 0]], [(0, .arr tItem a0), (1, .box [.clos 77 [.ptr 2 0, .ptr 3 0]]), (2, .box [.dat .str lk, .dat .str lp, .dat tI ll, .dat (.slice .str) lps]), (3, .box [.dat (.slice tItem) its, .dat tI c1, .dat tI c2, .dat tI c3, .dat tI c4])]⟩ = (f99h0 n (20 : Int) (0 : Int) (20 : Int) a0 lk lp ll lps its c1 c2 c3 c4) := (I99.run_eq _).trans (by kernel_rfl)
theorem f99h0_eq (x0 : Int) (x1 : Int) (x2 : Int) (x3 : Int) (x4 : (List Item)) (x5 : Bytes) (x6 : Bytes) (x7 : Int) (x8 : (List Bytes)) (x9 : (List Item)) (x10 : Int) (x11 : Int) (x12 : Int) (x13 : Int) : f99h0 x0 x1 x2 x3 x4 x5 x6 x7 x8 x9 x10 x11 x12 x13 = (cond (decide (x3 ≤ x0)) (cond (decide (List.length x4 ≤ 12) && x2 == 0 && x3 == (List.length x4 : Int)) (f99h0 x0 x1 x3 (wrap .i64 (x3 + x1)) (sortG (fun u v => decide (t81_0 u v x5 x6 x7 x8 x9 x10 x11 x12 x13 < 0)) x4) (x5) (x6) (x7) (x8) (x9) (x10) (x11) (x12) (x13)) none) (cond (decide (List.length x4 ≤ 12) && x2 == 0 && x0 == (List.length x4 : Int)) (f99h2 x0 x1 (sortG (fun u v => decide (t81_0 u v x5 x6 x7 x8 x9 x10 x11 x12 x13 < 0)) x4) (x5) (x6) (x7) (x8) (x9) (x10) (x11) (x12) (x13)) none)) := hdEq (by kernel_rfl)
theorem f99h2_eq (x0 : Int) (x1 : Int) (x2 : (List Item)) (x3 : Bytes) (x4 : Bytes) (x5 : Int) (x6 : (List Bytes)) (x7 : (List Item)) (x8 : Int) (x9 : Int) (x10 : Int) (x11 : Int) : f99h2 x0 x1 x2 x3 x4 x5 x6 x7 x8 x9 x10 x11 = (cond (decide (x1 < x0)) (f99h4 x0 x1 (0 : Int) (wrap .i64 ((2 : Int) * x1)) x2 x3 x4 x5 x6 x7 x8 x9 x10 x11) (some ⟨[], [(0, .arr tItem x2), (1, .box [.clos 77 [.ptr 2 0, .ptr 3 0]]), (2, .box [.dat .str x3, .dat .str x4, .dat tI x5, .dat (.slice .str) x6]), (3, .box [.dat (.slice tItem) x7, .dat tI x8, .dat tI x9, .dat tI x10, .dat tI x11])]⟩)) := hdEq (by kernel_rfl)
theorem f99h4_eq (x0 : Int) (x1 : Int) (x2 : Int) (x3 : Int) (x4 : (List Item)) (x5 : Bytes) (x6 : Bytes) (x7 : Int) (x8 : (List Bytes)) (x9 : (List Item)) (x10 : Int) (x11 : Int) (x12 : Int) (x13 : Int) : f99h4 x0 x1 x2 x3 x4 x5 x6 x7 x8 x9 x10 x11 x12 x13 = (cond (decide (x3 ≤ x0)) none (cond (decide ((wrap .i64 (x2 + x1)) < x0)) none (f99h2 x0 (wrap .i64 (x1 * (2 : Int))) x4 x5 x6 x7 x8 x9 x10 x11 x12 x13))) := hdEq (by kernel_rfl)
theorem f80_run (a0 : (List Item)) (lk : Bytes) (lp : Bytes) (ll : Int) (lps : (List Bytes)) (its : (List Item)) (c1 : Int) (c2 : Int) (c3 : Int) (c4 : Int) : I80.run ⟨[.slc 0, .clos 81 [.ptr 1 0]], [(0, .arr tItem a0), (1, .box [.clos 77 [.ptr 2 0, .ptr 3 0]]), (2, .box [.dat .str lk, .dat .str lp, .dat tI ll, .dat (.slice .str) lps]), (3, .box [.dat (.slice tItem) its, .dat tI c1, .dat tI c2, .dat tI c3, .dat tI c4])]⟩ = (cond (decide (List.length a0 ≤ 12) && ((List.length a0 : Nat) : Int) == (List.length a0 : Int)) (some ⟨[], [(0, .arr tItem (sortG (fun u v => decide (t81_0 u v lk lp ll lps its c1 c2 c3 c4 < 0)) a0)), (1, .box [.clos 77 [.ptr 2 0, .ptr 3 0]]), (2, .box [.dat .str (lk), .dat .str (lp), .dat tI (ll), .dat (.slice .str) (lps)]), (3, .box [.dat (.slice tItem) (its), .dat tI (c1), .dat tI (c2), .dat tI (c3), .dat tI (c4)])]⟩) none) := (I80.run_eq _).trans (by kernel_rfl)
theorem f57_run (a0 : (List Item)) : I57.run ⟨[.dat (.slice tItem) a0], []⟩ = (cond (List.isEmpty a0) (both (some ⟨[.slc 0], [(0, .arr tItem ([] : List Item))]⟩) (cond (decide ((List.length ([] : List Item) + List.length a0) * 64 ≤ 140737488355328)) (some ⟨[.slc 0], [(0, .arr tItem (([] : List Item) ++ a0))]⟩) none)) (cond (decide ((List.length ([] : List Item) + List.length a0) * 64 ≤ 140737488355328)) (some ⟨[.slc 0], [(0, .arr tItem (([] : List Item) ++ a0))]⟩) none)) := (I57.run_eq _).trans (by kernel_rfl)
noncomputable def f67h0 (x0 : (List Item)) (x1 : Int) (x2 : Int) (x3 : (List Bytes)) : Option Fr := I67.hd 0 (mkF 19 [(3, .slc 500), (6, .dat (.slice tItem) x0), (7, .dat tI x1), (8, .dat tI x2)] [(500, .arr .str x3)])
theorem f67_run (a0 : (List Item)) : I67.run ⟨[.dat (.slice tItem) a0], []⟩ = (f67h0 a0 ((List.length a0 : Nat) : Int) (0 : Int) ([] : List Bytes)) := (I67.run_eq _).trans (by kernel_rfl)
theorem f67h0_eq (x0 : (List Item)) (x1 : Int) (x2 : Int) (x3 : (List Bytes)) : f67h0 x0 x1 x2 x3 = (cond (decide (x2 < x1)) (cond (decide ((0 : Int) ≤ x2)) (cond (decide (x2 < ((List.length x0 : Nat) : Int))) (cond (decide ((List.length x3 + List.length ([(List.getD x0 (Int.toNat x2) (Tc.dflt tItem)).1] : List Bytes)) * 16 ≤ 140737488355328)) (f67h0 x0 x1 (wrap .i64 (x2 + (1 : Int))) (x3 ++ ([(List.getD x0 (Int.toNat x2) (Tc.dflt tItem)).1] : List Bytes))) none) none) none) (some ⟨[.dat (.slice .str) x3], []⟩)) := hdEq (by kernel_rfl)
end Go.Ev.L

set_option linter.unusedVariables false
set_option linter.unusedSimpArgs false
set_option maxRecDepth 100000
namespace Go.Ev.L
open Go Go.Ev Go.Proofs
theorem f39_run (a0 : Prgm) (a1 : Int) : I39.run ⟨[.dat tPrgm a0, .dat tI a1], []⟩ = (cond (decide ((0 : Int) ≤ (wrap .i64 (((List.length a0.1 : Nat) : Int) - (1 : Int))))) (cond (decide ((wrap .i64 (((List.length a0.1 : Nat) : Int) - (1 : Int))) < ((List.length a0.1 : Nat) : Int))) (cond (decide (List.length a0.1 ≤ 1000)) (cond (decide (List.length (a0.1) ≤ 1000)) (cond (decide (List.length (List.filter (fun o => !t79_0 o a1 (List.getD a0.1 (Int.toNat (wrap .i64 (((List.length a0.1 : Nat) : Int) - (1 : Int)))) (Tc.dflt tItem)).1 (List.getD a0.1 (Int.toNat (wrap .i64 (((List.length a0.1 : Nat) : Int) - (1 : Int)))) (Tc.dflt tItem)).2.1 (List.getD a0.1 (Int.toNat (wrap .i64 (((List.length a0.1 : Nat) : Int) - (1 : Int)))) (Tc.dflt tItem)).2.2.1 (List.getD a0.1 (Int.toNat (wrap .i64 (((List.length a0.1 : Nat) : Int) - (1 : Int)))) (Tc.dflt tItem)).2.2.2 a0.1 a0.2.1 a0.2.2.1 a0.2.2.2.1 a0.2.2.2.2) (a0.1)) ≤ 12)) (cond (decide (List.length (sortG (fun u v => decide (t81_0 u v ((List.getD a0.1 (Int.toNat (wrap .i64 (((List.length a0.1 : Nat) : Int) - (1 : Int)))) (Tc.dflt tItem)).1) ((List.getD a0.1 (Int.toNat (wrap .i64 (((List.length a0.1 : Nat) : Int) - (1 : Int)))) (Tc.dflt tItem)).2.1) ((List.getD a0.1 (Int.toNat (wrap .i64 (((List.length a0.1 : Nat) : Int) - (1 : Int)))) (Tc.dflt tItem)).2.2.1) ((List.getD a0.1 (Int.toNat (wrap .i64 (((List.length a0.1 : Nat) : Int) - (1 : Int)))) (Tc.dflt tItem)).2.2.2) (a0.1) (a0.2.1) (a0.2.2.1) (a0.2.2.2.1) (a0.2.2.2.2) < 0)) (List.filter (fun o => !t79_0 o a1 (List.getD a0.1 (Int.toNat (wrap .i64 (((List.length a0.1 : Nat) : Int) - (1 : Int)))) (Tc.dflt tItem)).1 (List.getD a0.1 (Int.toNat (wrap .i64 (((List.length a0.1 : Nat) : Int) - (1 : Int)))) (Tc.dflt tItem)).2.1 (List.getD a0.1 (Int.toNat (wrap .i64 (((List.length a0.1 : Nat) : Int) - (1 : Int)))) (Tc.dflt tItem)).2.2.1 (List.getD a0.1 (Int.toNat (wrap .i64 (((List.length a0.1 : Nat) : Int) - (1 : Int)))) (Tc.dflt tItem)).2.2.2 a0.1 a0.2.1 a0.2.2.1 a0.2.2.2.1 a0.2.2.2.2) (a0.1))) ≤ 1000)) (some ⟨[.dat (.slice .str) (List.map (fun o => o.1) (sortG (fun u v => decide (t81_0 u v ((List.getD a0.1 (Int.toNat (wrap .i64 (((List.length a0.1 : Nat) : Int) - (1 : Int)))) (Tc.dflt tItem)).1) ((List.getD a0.1 (Int.toNat (wrap .i64 (((List.length a0.1 : Nat) : Int) - (1 : Int)))) (Tc.dflt tItem)).2.1) ((List.getD a0.1 (Int.toNat (wrap .i64 (((List.length a0.1 : Nat) : Int) - (1 : Int)))) (Tc.dflt tItem)).2.2.1) ((List.getD a0.1 (Int.toNat (wrap .i64 (((List.length a0.1 : Nat) : Int) - (1 : Int)))) (Tc.dflt tItem)).2.2.2) (a0.1) (a0.2.1) (a0.2.2.1) (a0.2.2.2.1) (a0.2.2.2.2) < 0)) (List.filter (fun o => !t79_0 o a1 (List.getD a0.1 (Int.toNat (wrap .i64 (((List.length a0.1 : Nat) : Int) - (1 : Int)))) (Tc.dflt tItem)).1 (List.getD a0.1 (Int.toNat (wrap .i64 (((List.length a0.1 : Nat) : Int) - (1 : Int)))) (Tc.dflt tItem)).2.1 (List.getD a0.1 (Int.toNat (wrap .i64 (((List.length a0.1 : Nat) : Int) - (1 : Int)))) (Tc.dflt tItem)).2.2.1 (List.getD a0.1 (Int.toNat (wrap .i64 (((List.length a0.1 : Nat) : Int) - (1 : Int)))) (Tc.dflt tItem)).2.2.2 a0.1 a0.2.1 a0.2.2.1 a0.2.2.2.1 a0.2.2.2.2) (a0.1))))], []⟩) none) none) none) none) none) none) := (I39.run_eq _).trans (by kernel_rfl)
end Go.Ev.L

set_option linter.unusedVariables false
set_option linter.unusedSimpArgs false
set_option maxRecDepth 100000
namespace Go.Ev.L
open Go Go.Ev Go.Proofs
theorem f5_run (a0 : (List Int)) : I5.run ⟨[.dat (.slice tI) a0], []⟩ = (cond (atOk 2000 (0 : Int) && (5 : Int) == 5) (cond (atOk 1 ((aProg a0 (0 : Int) (5 : Int)).1) && decide (0 < List.length [(0 : Int), (99 : Int), (150 : Int), (260 : Int), (400 : Int), (1000 : Int), (-1 : Int), (5184000001 : Int)]) && decide (List.length [(0 : Int), (99 : Int), (150 : Int), (260 : Int), (400 : Int), (1000 : Int), (-1 : Int), (5184000001 : Int)] ≤ 1000)) (cond (atOk 1 (nextAt ((aProg a0 (0 : Int) (5 : Int)).1)) && decide (0 < List.length [(0 : Int), (60 : Int), (110 : Int), (130 : Int), (250 : Int), (-1 : Int), (86400001 : Int)]) && decide (List.length [(0 : Int), (60 : Int), (110 : Int), (130 : Int), (250 : Int), (-1 : Int), (86400001 : Int)] ≤ 1000)) (cond (decide (List.length (((aProg a0 (0 : Int) (5 : Int)).2).1, (((aProg a0 (0 : Int) (5 : Int)).2).2.1, (((aProg a0 (0 : Int) (5 : Int)).2).2.2.1, (((aProg a0 (0 : Int) (5 : Int)).2).2.2.2.1, ((aProg a0 (0 : Int) (5 : Int)).2).2.2.2.2)))).1 ≤ 5)) (cond (decide (List.length (((aProg a0 (0 : Int) (5 : Int)).2).1, (((aProg a0 (0 : Int) (5 : Int)).2).2.1, (((aProg a0 (0 : Int) (5 : Int)).2).2.2.1, (((aProg a0 (0 : Int) (5 : Int)).2).2.2.2.1, ((aProg a0 (0 : Int) (5 : Int)).2).2.2.2.2)))).1 ≤ 5)) (cond (decide ((pick (a0) ((aProg a0 (0 : Int) (5 : Int)).1) [(0 : Int), (99 : Int), (150 : Int), (260 : Int), (400 : Int), (1000 : Int), (-1 : Int), (5184000001 : Int)]) < (0 : Int))) (cond (decide (List.length [(checkProg keyR (((aProg a0 (0 : Int) (5 : Int)).2).1, (((aProg a0 (0 : Int) (5 : Int)).2).2.1, (((aProg a0 (0 : Int) (5 : Int)).2).2.2.1, (((aProg a0 (0 : Int) (5 : Int)).2).2.2.2.1, ((aProg a0 (0 : Int) (5 : Int)).2).2.2.2.2))))), (t24_0 true (1 : Int))] ≤ 1000)) (cond (decide ((pick ((a0)) (nextAt ((aProg a0 (0 : Int) (5 : Int)).1)) [(0 : Int), (60 : Int), (110 : Int), (130 : Int), (250 : Int), (-1 : Int), (86400001 : Int)]) < (0 : Int))) (cond (decide (List.length [(checkProg keyR (((aProg a0 (0 : Int) (5 : Int)).2).1, (((aProg a0 (0 : Int) (5 : Int)).2).2.1, (((aProg a0 (0 : Int) (5 : Int)).2).2.2.1, (((aProg a0 (0 : Int) (5 : Int)).2).2.2.2.1, ((aProg a0 (0 : Int) (5 : Int)).2).2.2.2.2))))), (t24_0 true (1 : Int)), (t24_0 (((List.length ((aProg a0 (0 : Int) (5 : Int)).2).1 : Nat) : Int) == (0 : Int)) (8 : Int))] ≤ 1000)) (cond ((firstE [(checkProg keyR (((aProg a0 (0 : Int) (5 : Int)).2).1, (((aProg a0 (0 : Int) (5 : Int)).2).2.1, (((aProg a0 (0 : Int) (5 : Int)).2).2.2.1, (((aProg a0 (0 : Int) (5 : Int)).2).2.2.2.1, ((aProg a0 (0 : Int) (5 : Int)).2).2.2.2.2))))), (t24_0 true (1 : Int))]) == (0 : Int)) (cond (decide (List.length (((aProg a0 (0 : Int) (5 : Int)).2).1, (((aProg a0 (0 : Int) (5 : Int)).2).2.1, (((aProg a0 (0 : Int) (5 : Int)).2).2.2.1, (((aProg a0 (0 : Int) (5 : Int)).2).2.2.2.1, ((aProg a0 (0 : Int) (5 : Int)).2).2.2.2.2)))).1 ≤ 5)) (cond ((firstE [(checkProg keyR (((aProg a0 (0 : Int) (5 : Int)).2).1, (((aProg a0 (0 : Int) (5 : Int)).2).2.1, (((aProg a0 (0 : Int) (5 : Int)).2).2.2.1, (((aProg a0 (0 : Int) (5 : Int)).2).2.2.2.1, ((aProg a0 (0 : Int) (5 : Int)).2).2.2.2.2))))), (t24_0 true (1 : Int)), (t24_0 (((List.length ((aProg a0 (0 : Int) (5 : Int)).2).1 : Nat) : Int) == (0 : Int)) (8 : Int))]) == (0 : Int)) (cond (decide (List.length (((aProg a0 (0 : Int) (5 : Int)).2).1, (((aProg a0 (0 : Int) (5 : Int)).2).2.1, (((aProg a0 (0 : Int) (5 : Int)).2).2.2.1, (((aProg a0 (0 : Int) (5 : Int)).2).2.2.2.1, ((aProg a0 (0 : Int) (5 : Int)).2).2.2.2.2)))).1 ≤ 5) && decide (0 < List.length (((aProg a0 (0 : Int) (5 : Int)).2).1, (((aProg a0 (0 : Int) (5 : Int)).2).2.1, (((aProg a0 (0 : Int) (5 : Int)).2).2.2.1, (((aProg a0 (0 : Int) (5 : Int)).2).2.2.2.1, ((aProg a0 (0 : Int) (5 : Int)).2).2.2.2.2)))).1)) (cond (((fitF (((aProg a0 (0 : Int) (5 : Int)).2).1, (((aProg a0 (0 : Int) (5 : Int)).2).2.1, (((aProg a0 (0 : Int) (5 : Int)).2).2.2.1, (((aProg a0 (0 : Int) (5 : Int)).2).2.2.2.1, ((aProg a0 (0 : Int) (5 : Int)).2).2.2.2.2)))) (pick (a0) ((aProg a0 (0 : Int) (5 : Int)).1) [(0 : Int), (99 : Int), (150 : Int), (260 : Int), (400 : Int), (1000 : Int), (-1 : Int), (5184000001 : Int)])).2) == (firstE [(checkProg keyR (((aProg a0 (0 : Int) (5 : Int)).2).1, (((aProg a0 (0 : Int) (5 : Int)).2).2.1, (((aProg a0 (0 : Int) (5 : Int)).2).2.2.1, (((aProg a0 (0 : Int) (5 : Int)).2).2.2.2.1, ((aProg a0 (0 : Int) (5 : Int)).2).2.2.2.2))))), (t24_0 true (1 : Int))])) (cond (decide (List.length ((fitF (((aProg a0 (0 : Int) (5 : Int)).2).1, (((aProg a0 (0 : Int) (5 : Int)).2).2.1, (((aProg a0 (0 : Int) (5 : Int)).2).2.2.1, (((aProg a0 (0 : Int) (5 : Int)).2).2.2.2.1, ((aProg a0 (0 : Int) (5 : Int)).2).2.2.2.2)))) (pick (a0) ((aProg a0 (0 : Int) (5 : Int)).1) [(0 : Int), (99 : Int), (150 : Int), (260 : Int), (400 : Int), (1000 : Int), (-1 : Int), (5184000001 : Int)])).1) ≤ 1000)) (cond (((fitF (((aProg a0 (0 : Int) (5 : Int)).2).1, (((aProg a0 (0 : Int) (5 : Int)).2).2.1, (((aProg a0 (0 : Int) (5 : Int)).2).2.2.1, (((aProg a0 (0 : Int) (5 : Int)).2).2.2.2.1, ((aProg a0 (0 : Int) (5 : Int)).2).2.2.2.2)))) (pick (a0) ((aProg a0 (0 : Int) (5 : Int)).1) [(0 : Int), (99 : Int), (150 : Int), (260 : Int), (400 : Int), (1000 : Int), (-1 : Int), (5184000001 : Int)])).1) == (fitR (((aProg a0 (0 : Int) (5 : Int)).2).1, (((aProg a0 (0 : Int) (5 : Int)).2).2.1, (((aProg a0 (0 : Int) (5 : Int)).2).2.2.1, (((aProg a0 (0 : Int) (5 : Int)).2).2.2.2.1, ((aProg a0 (0 : Int) (5 : Int)).2).2.2.2.2)))) (pick (a0) ((aProg a0 (0 : Int) (5 : Int)).1) [(0 : Int), (99 : Int), (150 : Int), (260 : Int), (400 : Int), (1000 : Int), (-1 : Int), (5184000001 : Int)]))) (cond (((encF (((aProg a0 (0 : Int) (5 : Int)).2).1, (((aProg a0 (0 : Int) (5 : Int)).2).2.1, (((aProg a0 (0 : Int) (5 : Int)).2).2.2.1, (((aProg a0 (0 : Int) (5 : Int)).2).2.2.2.1, ((aProg a0 (0 : Int) (5 : Int)).2).2.2.2.2)))) (pick ((a0)) (nextAt ((aProg a0 (0 : Int) (5 : Int)).1)) [(0 : Int), (60 : Int), (110 : Int), (130 : Int), (250 : Int), (-1 : Int), (86400001 : Int)])).2) == (firstE [(checkProg keyR (((aProg a0 (0 : Int) (5 : Int)).2).1, (((aProg a0 (0 : Int) (5 : Int)).2).2.1, (((aProg a0 (0 : Int) (5 : Int)).2).2.2.1, (((aProg a0 (0 : Int) (5 : Int)).2).2.2.2.1, ((aProg a0 (0 : Int) (5 : Int)).2).2.2.2.2))))), (t24_0 true (1 : Int)), (t24_0 (((List.length ((aProg a0 (0 : Int) (5 : Int)).2).1 : Nat) : Int) == (0 : Int)) (8 : Int))])) (cond (decide (List.length ((encF (((aProg a0 (0 : Int) (5 : Int)).2).1, (((aProg a0 (0 : Int) (5 : Int)).2).2.1, (((aProg a0 (0 : Int) (5 : Int)).2).2.2.1, (((aProg a0 (0 : Int) (5 : Int)).2).2.2.2.1, ((aProg a0 (0 : Int) (5 : Int)).2).2.2.2.2)))) (pick ((a0)) (nextAt ((aProg a0 (0 : Int) (5 : Int)).1)) [(0 : Int), (60 : Int), (110 : Int), (130 : Int), (250 : Int), (-1 : Int), (86400001 : Int)])).1) ≤ 1000)) (cond (((encF (((aProg a0 (0 : Int) (5 : Int)).2).1, (((aProg a0 (0 : Int) (5 : Int)).2).2.1, (((aProg a0 (0 : Int) (5 : Int)).2).2.2.1, (((aProg a0 (0 : Int) (5 : Int)).2).2.2.2.1, ((aProg a0 (0 : Int) (5 : Int)).2).2.2.2.2)))) (pick ((a0)) (nextAt ((aProg a0 (0 : Int) (5 : Int)).1)) [(0 : Int), (60 : Int), (110 : Int), (130 : Int), (250 : Int), (-1 : Int), (86400001 : Int)])).1) == (encR (((aProg a0 (0 : Int) (5 : Int)).2).1, (((aProg a0 (0 : Int) (5 : Int)).2).2.1, (((aProg a0 (0 : Int) (5 : Int)).2).2.2.1, (((aProg a0 (0 : Int) (5 : Int)).2).2.2.2.1, ((aProg a0 (0 : Int) (5 : Int)).2).2.2.2.2)))) (pick ((a0)) (nextAt ((aProg a0 (0 : Int) (5 : Int)).1)) [(0 : Int), (60 : Int), (110 : Int), (130 : Int), (250 : Int), (-1 : Int), (86400001 : Int)]))) (some ⟨[.dat .bool true], []⟩) (some ⟨[.dat .bool false], []⟩)) none) (some ⟨[.dat .bool false], []⟩)) (some ⟨[.dat .bool false], []⟩)) none) (some ⟨[.dat .bool false], []⟩)) none) (cond (((fitF (((aProg a0 (0 : Int) (5 : Int)).2).1, (((aProg a0 (0 : Int) (5 : Int)).2).2.1, (((aProg a0 (0 : Int) (5 : Int)).2).2.2.1, (((aProg a0 (0 : Int) (5 : Int)).2).2.2.2.1, ((aProg a0 (0 : Int) (5 : Int)).2).2.2.2.2)))) (pick (a0) ((aProg a0 (0 : Int) (5 : Int)).1) [(0 : Int), (99 : Int), (150 : Int), (260 : Int), (400 : Int), (1000 : Int), (-1 : Int), (5184000001 : Int)])).2) == (firstE [(checkProg keyR (((aProg a0 (0 : Int) (5 : Int)).2).1, (((aProg a0 (0 : Int) (5 : Int)).2).2.1, (((aProg a0 (0 : Int) (5 : Int)).2).2.2.1, (((aProg a0 (0 : Int) (5 : Int)).2).2.2.2.1, ((aProg a0 (0 : Int) (5 : Int)).2).2.2.2.2))))), (t24_0 true (1 : Int))])) (cond (decide (List.length ((fitF (((aProg a0 (0 : Int) (5 : Int)).2).1, (((aProg a0 (0 : Int) (5 : Int)).2).2.1, (((aProg a0 (0 : Int) (5 : Int)).2).2.2.1, (((aProg a0 (0 : Int) (5 : Int)).2).2.2.2.1, ((aProg a0 (0 : Int) (5 : Int)).2).2.2.2.2)))) (pick (a0) ((aProg a0 (0 : Int) (5 : Int)).1) [(0 : Int), (99 : Int), (150 : Int), (260 : Int), (400 : Int), (1000 : Int), (-1 : Int), (5184000001 : Int)])).1) ≤ 1000)) (cond (((fitF (((aProg a0 (0 : Int) (5 : Int)).2).1, (((aProg a0 (0 : Int) (5 : Int)).2).2.1, (((aProg a0 (0 : Int) (5 : Int)).2).2.2.1, (((aProg a0 (0 : Int) (5 : Int)).2).2.2.2.1, ((aProg a0 (0 : Int) (5 : Int)).2).2.2.2.2)))) (pick (a0) ((aProg a0 (0 : Int) (5 : Int)).1) [(0 : Int), (99 : Int), (150 : Int), (260 : Int), (400 : Int), (1000 : Int), (-1 : Int), (5184000001 : Int)])).1) == (fitR (((aProg a0 (0 : Int) (5 : Int)).2).1, (((aProg a0 (0 : Int) (5 : Int)).2).2.1, (((aProg a0 (0 : Int) (5 : Int)).2).2.2.1, (((aProg a0 (0 : Int) (5 : Int)).2).2.2.2.1, ((aProg a0 (0 : Int) (5 : Int)).2).2.2.2.2)))) (pick (a0) ((aProg a0 (0 : Int) (5 : Int)).1) [(0 : Int), (99 : Int), (150 : Int), (260 : Int), (400 : Int), (1000 : Int), (-1 : Int), (5184000001 : Int)]))) (cond (((encF (((aProg a0 (0 : Int) (5 : Int)).2).1, (((aProg a0 (0 : Int) (5 : Int)).2).2.1, (((aProg a0 (0 : Int) (5 : Int)).2).2.2.1, (((aProg a0 (0 : Int) (5 : Int)).2).2.2.2.1, ((aProg a0 (0 : Int) (5 : Int)).2).2.2.2.2)))) (pick ((a0)) (nextAt ((aProg a0 (0 : Int) (5 : Int)).1)) [(0 : Int), (60 : Int), (110 : Int), (130 : Int), (250 : Int), (-1 : Int), (86400001 : Int)])).2) == (firstE [(checkProg keyR (((aProg a0 (0 : Int) (5 : Int)).2).1, (((aProg a0 (0 : Int) (5 : Int)).2).2.1, (((aProg a0 (0 : Int) (5 : Int)).2).2.2.1, (((aProg a0 (0 : Int) (5 : Int)).2).2.2.2.1, ((aProg a0 (0 : Int) (5 : Int)).2).2.2.2.2))))), (t24_0 true (1 : Int)), (t24_0 (((List.length ((aProg a0 (0 : Int) (5 : Int)).2).1 : Nat) : Int) == (0 : Int)) (8 : Int))])) (cond (decide (List.length ((encF (((aProg a0 (0 : Int) (5 : Int)).2).1, (((aProg a0 (0 : Int) (5 : Int)).2).2.1, (((aProg a0 (0 : Int) (5 : Int)).2).2.2.1, (((aProg a0 (0 : Int) (5 : Int)).2).2.2.2.1, ((aProg a0 (0 : Int) (5 : Int)).2).2.2.2.2)))) (pick ((a0)) (nextAt ((aProg a0 (0 : Int) (5 : Int)).1)) [(0 : Int), (60 : Int), (110 : Int), (130 : Int), (250 : Int), (-1 : Int), (86400001 : Int)])).1) ≤ 1000)) (cond (((encF (((aProg a0 (0 : Int) (5 : Int)).2).1, (((aProg a0 (0 : Int) (5 : Int)).2).2.1, (((aProg a0 (0 : Int) (5 : Int)).2).2.2.1, (((aProg a0 (0 : Int) (5 : Int)).2).2.2.2.1, ((aProg a0 (0 : Int) (5 : Int)).2).2.2.2.2)))) (pick ((a0)) (nextAt ((aProg a0 (0 : Int) (5 : Int)).1)) [(0 : Int), (60 : Int), (110 : Int), (130 : Int), (250 : Int), (-1 : Int), (86400001 : Int)])).1) == ([] : List Bytes)) (some ⟨[.dat .bool true], []⟩) (some ⟨[.dat .bool false], []⟩)) none) (some ⟨[.dat .bool false], []⟩)) (some ⟨[.dat .bool false], []⟩)) none) (some ⟨[.dat .bool false], []⟩))) none) (cond ((firstE [(checkProg keyR (((aProg a0 (0 : Int) (5 : Int)).2).1, (((aProg a0 (0 : Int) (5 : Int)).2).2.1, (((aProg a0 (0 : Int) (5 : Int)).2).2.2.1, (((aProg a0 (0 : Int) (5 : Int)).2).2.2.2.1, ((aProg a0 (0 : Int) (5 : Int)).2).2.2.2.2))))), (t24_0 true (1 : Int)), (t24_0 (((List.length ((aProg a0 (0 : Int) (5 : Int)).2).1 : Nat) : Int) == (0 : Int)) (8 : Int))]) == (0 : Int)) (cond (decide (List.length (((aProg a0 (0 : Int) (5 : Int)).2).1, (((aProg a0 (0 : Int) (5 : Int)).2).2.1, (((aProg a0 (0 : Int) (5 : Int)).2).2.2.1, (((aProg a0 (0 : Int) (5 : Int)).2).2.2.2.1, ((aProg a0 (0 : Int) (5 : Int)).2).2.2.2.2)))).1 ≤ 5) && decide (0 < List.length (((aProg a0 (0 : Int) (5 : Int)).2).1, (((aProg a0 (0 : Int) (5 : Int)).2).2.1, (((aProg a0 (0 : Int) (5 : Int)).2).2.2.1, (((aProg a0 (0 : Int) (5 : Int)).2).2.2.2.1, ((aProg a0 (0 : Int) (5 : Int)).2).2.2.2.2)))).1)) (cond (((fitF (((aProg a0 (0 : Int) (5 : Int)).2).1, (((aProg a0 (0 : Int) (5 : Int)).2).2.1, (((aProg a0 (0 : Int) (5 : Int)).2).2.2.1, (((aProg a0 (0 : Int) (5 : Int)).2).2.2.2.1, ((aProg a0 (0 : Int) (5 : Int)).2).2.2.2.2)))) (pick (a0) ((aProg a0 (0 : Int) (5 : Int)).1) [(0 : Int), (99 : Int), (150 : Int), (260 : Int), (400 : Int), (1000 : Int), (-1 : Int), (5184000001 : Int)])).2) == (firstE [(checkProg keyR (((aProg a0 (0 : Int) (5 : Int)).2).1, (((aProg a0 (0 : Int) (5 : Int)).2).2.1, (((aProg a0 (0 : Int) (5 : Int)).2).2.2.1, (((aProg a0 (0 : Int) (5 : Int)).2).2.2.2.1, ((aProg a0 (0 : Int) (5 : Int)).2).2.2.2.2))))), (t24_0 true (1 : Int))])) (cond (decide (List.length ((fitF (((aProg a0 (0 : Int) (5 : Int)).2).1, (((aProg a0 (0 : Int) (5 : Int)).2).2.1, (((aProg a0 (0 : Int) (5 : Int)).2).2.2.1, (((aProg a0 (0 : Int) (5 : Int)).2).2.2.2.1, ((aProg a0 (0 : Int) (5 : Int)).2).2.2.2.2)))) (pick (a0) ((aProg a0 (0 : Int) (5 : Int)).1) [(0 : Int), (99 : Int), (150 : Int), (260 : Int), (400 : Int), (1000 : Int), (-1 : Int), (5184000001 : Int)])).1) ≤ 1000)) (cond (((fitF (((aProg a0 (0 : Int) (5 : Int)).2).1, (((aProg a0 (0 : Int) (5 : Int)).2).2.1, (((aProg a0 (0 : Int) (5 : Int)).2).2.2.1, (((aProg a0 (0 : Int) (5 : Int)).2).2.2.2.1, ((aProg a0 (0 : Int) (5 : Int)).2).2.2.2.2)))) (pick (a0) ((aProg a0 (0 : Int) (5 : Int)).1) [(0 : Int), (99 : Int), (150 : Int), (260 : Int), (400 : Int), (1000 : Int), (-1 : Int), (5184000001 : Int)])).1) == ([] : List Bytes)) (cond (((encF (((aProg a0 (0 : Int) (5 : Int)).2).1, (((aProg a0 (0 : Int) (5 : Int)).2).2.1, (((aProg a0 (0 : Int) (5 : Int)).2).2.2.1, (((aProg a0 (0 : Int) (5 : Int)).2).2.2.2.1, ((aProg a0 (0 : Int) (5 : Int)).2).2.2.2.2)))) (pick ((a0)) (nextAt ((aProg a0 (0 : Int) (5 : Int)).1)) [(0 : Int), (60 : Int), (110 : Int), (130 : Int), (250 : Int), (-1 : Int), (86400001 : Int)])).2) == (firstE [(checkProg keyR (((aProg a0 (0 : Int) (5 : Int)).2).1, (((aProg a0 (0 : Int) (5 : Int)).2).2.1, (((aProg a0 (0 : Int) (5 : Int)).2).2.2.1, (((aProg a0 (0 : Int) (5 : Int)).2).2.2.2.1, ((aProg a0 (0 : Int) (5 : Int)).2).2.2.2.2))))), (t24_0 true (1 : Int)), (t24_0 (((List.length ((aProg a0 (0 : Int) (5 : Int)).2).1 : Nat) : Int) == (0 : Int)) (8 : Int))])) (cond (decide (List.length ((encF (((aProg a0 (0 : Int) (5 : Int)).2).1, (((aProg a0 (0 : Int) (5 : Int)).2).2.1, (((aProg a0 (0 : Int) (5 : Int)).2).2.2.1, (((aProg a0 (0 : Int) (5 : Int)).2).2.2.2.1, ((aProg a0 (0 : Int) (5 : Int)).2).2.2.2.2)))) (pick ((a0)) (nextAt ((aProg a0 (0 : Int) (5 : Int)).1)) [(0 : Int), (60 : Int), (110 : Int), (130 : Int), (250 : Int), (-1 : Int), (86400001 : Int)])).1) ≤ 1000)) (cond (((encF (((aProg a0 (0 : Int) (5 : Int)).2).1, (((aProg a0 (0 : Int) (5 : Int)).2).2.1, (((aProg a0 (0 : Int) (5 : Int)).2).2.2.1, (((aProg a0 (0 : Int) (5 : Int)).2).2.2.2.1, ((aProg a0 (0 : Int) (5 : Int)).2).2.2.2.2)))) (pick ((a0)) (nextAt ((aProg a0 (0 : Int) (5 : Int)).1)) [(0 : Int), (60 : Int), (110 : Int), (130 : Int), (250 : Int), (-1 : Int), (86400001 : Int)])).1) == (encR (((aProg a0 (0 : Int) (5 : Int)).2).1, (((aProg a0 (0 : Int) (5 : Int)).2).2.1, (((aProg a0 (0 : Int) (5 : Int)).2).2.2.1, (((aProg a0 (0 : Int) (5 : Int)).2).2.2.2.1, ((aProg a0 (0 : Int) (5 : Int)).2).2.2.2.2)))) (pick ((a0)) (nextAt ((aProg a0 (0 : Int) (5 : Int)).1)) [(0 : Int), (60 : Int), (110 : Int), (130 : Int), (250 : Int), (-1 : Int), (86400001 : Int)]))) (some ⟨[.dat .bool true], []⟩) (some ⟨[.dat .bool false], []⟩)) none) (some ⟨[.dat .bool false], []⟩)) (some ⟨[.dat .bool false], []⟩)) none) (some ⟨[.dat .bool false], []⟩)) none) (cond (((fitF (((aProg a0 (0 : Int) (5 : Int)).2).1, (((aProg a0 (0 : Int) (5 : Int)).2).2.1, (((aProg a0 (0 : Int) (5 : Int)).2).2.2.1, (((aProg a0 (0 : Int) (5 : Int)).2).2.2.2.1, ((aProg a0 (0 : Int) (5 : Int)).2).2.2.2.2)))) (pick (a0) ((aProg a0 (0 : Int) (5 : Int)).1) [(0 : Int), (99 : Int), (150 : Int), (260 : Int), (400 : Int), (1000 : Int), (-1 : Int), (5184000001 : Int)])).2) == (firstE [(checkProg keyR (((aProg a0 (0 : Int) (5 : Int)).2).1, (((aProg a0 (0 : Int) (5 : Int)).2).2.1, (((aProg a0 (0 : Int) (5 : Int)).2).2.2.1, (((aProg a0 (0 : Int) (5 : Int)).2).2.2.2.1, ((aProg a0 (0 : Int) (5 : Int)).2).2.2.2.2))))), (t24_0 true (1 : Int))])) (cond (decide (List.length ((fitF (((aProg a0 (0 : Int) (5 : Int)).2).1, (((aProg a0 (0 : Int) (5 : Int)).2).2.1, (((aProg a0 (0 : Int) (5 : Int)).2).2.2.1, (((aProg a0 (0 : Int) (5 : Int)).2).2.2.2.1, ((aProg a0 (0 : Int) (5 : Int)).2).2.2.2.2)))) (pick (a0) ((aProg a0 (0 : Int) (5 : Int)).1) [(0 : Int), (99 : Int), (150 : Int), (260 : Int), (400 : Int), (1000 : Int), (-1 : Int), (5184000001 : Int)])).1) ≤ 1000)) (cond (((fitF (((aProg a0 (0 : Int) (5 : Int)).2).1, (((aProg a0 (0 : Int) (5 : Int)).2).2.1, (((aProg a0 (0 : Int) (5 : Int)).2).2.2.1, (((aProg a0 (0 : Int) (5 : Int)).2).2.2.2.1, ((aProg a0 (0 : Int) (5 : Int)).2).2.2.2.2)))) (pick (a0) ((aProg a0 (0 : Int) (5 : Int)).1) [(0 : Int), (99 : Int), (150 : Int), (260 : Int), (400 : Int), (1000 : Int), (-1 : Int), (5184000001 : Int)])).1) == ([] : List Bytes)) (cond (((encF (((aProg a0 (0 : Int) (5 : Int)).2).1, (((aProg a0 (0 : Int) (5 : Int)).2).2.1, (((aProg a0 (0 : Int) (5 : Int)).2).2.2.1, (((aProg a0 (0 : Int) (5 : Int)).2).2.2.2.1, ((aProg a0 (0 : Int) (5 : Int)).2).2.2.2.2)))) (pick ((a0)) (nextAt ((aProg a0 (0 : Int) (5 : Int)).1)) [(0 : Int), (60 : Int), (110 : Int), (130 : Int), (250 : Int), (-1 : Int), (86400001 : Int)])).2) == (firstE [(checkProg keyR (((aProg a0 (0 : Int) (5 : Int)).2).1, (((aProg a0 (0 : Int) (5 : Int)).2).2.1, (((aProg a0 (0 : Int) (5 : Int)).2).2.2.1, (((aProg a0 (0 : Int) (5 : Int)).2).2.2.2.1, ((aProg a0 (0 : Int) (5 : Int)).2).2.2.2.2))))), (t24_0 true (1 : Int)), (t24_0 (((List.length ((aProg a0 (0 : Int) (5 : Int)).2).1 : Nat) : Int) == (0 : Int)) (8 : Int))])) (cond (decide (List.length ((encF (((aProg a0 (0 : Int) (5 : Int)).2).1, (((aProg a0 (0 : Int) (5 : Int)).2).2.1, (((aProg a0 (0 : Int) (5 : Int)).2).2.2.1, (((aProg a0 (0 : Int) (5 : Int)).2).2.2.2.1, ((aProg a0 (0 : Int) (5 : Int)).2).2.2.2.2)))) (pick ((a0)) (nextAt ((aProg a0 (0 : Int) (5 : Int)).1)) [(0 : Int), (60 : Int), (110 : Int), (130 : Int), (250 : Int), (-1 : Int), (86400001 : Int)])).1) ≤ 1000)) (cond (((encF (((aProg a0 (0 : Int) (5 : Int)).2).1, (((aProg a0 (0 : Int) (5 : Int)).2).2.1, (((aProg a0 (0 : Int) (5 : Int)).2).2.2.1, (((aProg a0 (0 : Int) (5 : Int)).2).2.2.2.1, ((aProg a0 (0 : Int) (5 : Int)).2).2.2.2.2)))) (pick ((a0)) (nextAt ((aProg a0 (0 : Int) (5 : Int)).1)) [(0 : Int), (60 : Int), (110 : Int), (130 : Int), (250 : Int), (-1 : Int), (86400001 : Int)])).1) == ([] : List Bytes)) (some ⟨[.dat .bool true], []⟩) (some ⟨[.dat .bool false], []⟩)) none) (some ⟨[.dat .bool false], []⟩)) (some ⟨[.dat .bool false], []⟩)) none) (some ⟨[.dat .bool false], []⟩)))) none) (cond (decide (List.length [(checkProg keyR (((aProg a0 (0 : Int) (5 : Int)).2).1, (((aProg a0 (0 : Int) (5 : Int)).2).2.1, (((aProg a0 (0 : Int) (5 : Int)).2).2.2.1, (((aProg a0 (0 : Int) (5 : Int)).2).2.2.2.1, ((aProg a0 (0 : Int) (5 : Int)).2).2.2.2.2))))), (t24_0 (decide ((pick ((a0)) (nextAt ((aProg a0 (0 : Int) (5 : Int)).1)) [(0 : Int), (60 : Int), (110 : Int), (130 : Int), (250 : Int), (-1 : Int), (86400001 : Int)]) > (86400000 : Int))) (1 : Int)), (t24_0 (((List.length ((aProg a0 (0 : Int) (5 : Int)).2).1 : Nat) : Int) == (0 : Int)) (8 : Int))] ≤ 1000)) (cond ((firstE [(checkProg keyR (((aProg a0 (0 : Int) (5 : Int)).2).1, (((aProg a0 (0 : Int) (5 : Int)).2).2.1, (((aProg a0 (0 : Int) (5 : Int)).2).2.2.1, (((aProg a0 (0 : Int) (5 : Int)).2).2.2.2.1, ((aProg a0 (0 : Int) (5 : Int)).2).2.2.2.2))))), (t24_0 true (1 : Int))]) == (0 : Int)) (cond (decide (List.length (((aProg a0 (0 : Int) (5 : Int)).2).1, (((aProg a0 (0 : Int) (5 : Int)).2).2.1, (((aProg a0 (0 : Int) (5 : Int)).2).2.2.1, (((aProg a0 (0 : Int) (5 : Int)).2).2.2.2.1, ((aProg a0 (0 : Int) (5 : Int)).2).2.2.2.2)))).1 ≤ 5)) (cond ((firstE [(checkProg keyR (((aProg a0 (0 : Int) (5 : Int)).2).1, (((aProg a0 (0 : Int) (5 : Int)).2).2.1, (((aProg a0 (0 : Int) (5 : Int)).2).2.2.1, (((aProg a0 (0 : Int) (5 : Int)).2).2.2.2.1, ((aProg a0 (0 : Int) (5 : Int)).2).2.2.2.2))))), (t24_0 (decide ((pick ((a0)) (nextAt ((aProg a0 (0 : Int) (5 : Int)).1)) [(0 : Int), (60 : Int), (110 : Int), (130 : Int), (250 : Int), (-1 : Int), (86400001 : Int)]) > (86400000 : Int))) (1 : Int)), (t24_0 (((List.length ((aProg a0 (0 : Int) (5 : Int)).2).1 : Nat) : Int) == (0 : Int)) (8 : Int))]) == (0 : Int)) (cond (decide (List.length (((aProg a0 (0 : Int) (5 : Int)).2).1, (((aProg a0 (0 : Int) (5 : Int)).2).2.1, (((aProg a0 (0 : Int) (5 : Int)).2).2.2.1, (((aProg a0 (0 : Int) (5 : Int)).2).2.2.2.1, ((aProg a0 (0 : Int) (5 : Int)).2).2.2.2.2)))).1 ≤ 5) && decide (0 < List.length (((aProg a0 (0 : Int) (5 : Int)).2).1, (((aProg a0 (0 : Int) (5 : Int)).2).2.1, (((aProg a0 (0 : Int) (5 : Int)).2).2.2.1, (((aProg a0 (0 : Int) (5 : Int)).2).2.2.2.1, ((aProg a0 (0 : Int) (5 : Int)).2).2.2.2.2)))).1)) (cond (((fitF (((aProg a0 (0 : Int) (5 : Int)).2).1, (((aProg a0 (0 : Int) (5 : Int)).2).2.1, (((aProg a0 (0 : Int) (5 : Int)).2).2.2.1, (((aProg a0 (0 : Int) (5 : Int)).2).2.2.2.1, ((aProg a0 (0 : Int) (5 : Int)).2).2.2.2.2)))) (pick (a0) ((aProg a0 (0 : Int) (5 : Int)).1) [(0 : Int), (99 : Int), (150 : Int), (260 : Int), (400 : Int), (1000 : Int), (-1 : Int), (5184000001 : Int)])).2) == (firstE [(checkProg keyR (((aProg a0 (0 : Int) (5 : Int)).2).1, (((aProg a0 (0 : Int) (5 : Int)).2).2.1, (((aProg a0 (0 : Int) (5 : Int)).2).2.2.1, (((aProg a0 (0 : Int) (5 : Int)).2).2.2.2.1, ((aProg a0 (0 : Int) (5 : Int)).2).2.2.2.2))))), (t24_0 true (1 : Int))])) (cond (decide (List.length ((fitF (((aProg a0 (0 : Int) (5 : Int)).2).1, (((aProg a0 (0 : Int) (5 : Int)).2).2.1, (((aProg a0 (0 : Int) (5 : Int)).2).2.2.1, (((aProg a0 (0 : Int) (5 : Int)).2).2.2.2.1, ((aProg a0 (0 : Int) (5 : Int)).2).2.2.2.2)))) (pick (a0) ((aProg a0 (0 : Int) (5 : Int)).1) [(0 : Int), (99 : Int), (150 : Int), (260 : Int), (400 : Int), (1000 : Int), (-1 : Int), (5184000001 : Int)])).1) ≤ 1000)) (cond (((fitF (((aProg a0 (0 : Int) (5 : Int)).2).1, (((aProg a0 (0 : Int) (5 : Int)).2).2.1, (((aProg a0 (0 : Int) (5 : Int)).2).2.2.1, (((aProg a0 (0 : Int) (5 : Int)).2).2.2.2.1, ((aProg a0 (0 : Int) (5 : Int)).2).2.2.2.2)))) (pick (a0) ((aProg a0 (0 : Int) (5 : Int)).1) [(0 : Int), (99 : Int), (150 : Int), (260 : Int), (400 : Int), (1000 : Int), (-1 : Int), (5184000001 : Int)])).1) == (fitR (((aProg a0 (0 : Int) (5 : Int)).2).1, (((aProg a0 (0 : Int) (5 : Int)).2).2.1, (((aProg a0 (0 : Int) (5 : Int)).2).2.2.1, (((aProg a0 (0 : Int) (5 : Int)).2).2.2.2.1, ((aProg a0 (0 : Int) (5 : Int)).2).2.2.2.2)))) (pick (a0) ((aProg a0 (0 : Int) (5 : Int)).1) [(0 : Int), (99 : Int), (150 : Int), (260 : Int), (400 : Int), (1000 : Int), (-1 : Int), (5184000001 : Int)]))) (cond (((encF (((aProg a0 (0 : Int) (5 : Int)).2).1, (((aProg a0 (0 : Int) (5 : Int)).2).2.1, (((aProg a0 (0 : Int) (5 : Int)).2).2.2.1, (((aProg a0 (0 : Int) (5 : Int)).2).2.2.2.1, ((aProg a0 (0 : Int) (5 : Int)).2).2.2.2.2)))) (pick ((a0)) (nextAt ((aProg a0 (0 : Int) (5 : Int)).1)) [(0 : Int), (60 : Int), (110 : Int), (130 : Int), (250 : Int), (-1 : Int), (86400001 : Int)])).2) == (firstE [(checkProg keyR (((aProg a0 (0 : Int) (5 : Int)).2).1, (((aProg a0 (0 : Int) (5 : Int)).2).2.1, (((aProg a0 (0 : Int) (5 : Int)).2).2.2.1, (((aProg a0 (0 : Int) (5 : Int)).2).2.2.2.1, ((aProg a0 (0 : Int) (5 : Int)).2).2.2.2.2))))), (t24_0 (decide ((pick ((a0)) (nextAt ((aProg a0 (0 : Int) (5 : Int)).1)) [(0 : Int), (60 : Int), (110 : Int), (130 : Int), (250 : Int), (-1 : Int), (86400001 : Int)]) > (86400000 : Int))) (1 : Int)), (t24_0 (((List.length ((aProg a0 (0 : Int) (5 : Int)).2).1 : Nat) : Int) == (0 : Int)) (8 : Int))])) (cond (decide (List.length ((encF (((aProg a0 (0 : Int) (5 : Int)).2).1, (((aProg a0 (0 : Int) (5 : Int)).2).2.1, (((aProg a0 (0 : Int) (5 : Int)).2).2.2.1, (((aProg a0 (0 : Int) (5 : Int)).2).2.2.2.1, ((aProg a0 (0 : Int) (5 : Int)).2).2.2.2.2)))) (pick ((a0)) (nextAt ((aProg a0 (0 : Int) (5 : Int)).1)) [(0 : Int), (60 : Int), (110 : Int), (130 : Int), (250 : Int), (-1 : Int), (86400001 : Int)])).1) ≤ 1000)) (cond (((encF (((aProg a0 (0 : Int) (5 : Int)).2).1, (((aProg a0 (0 : Int) (5 : Int)).2).2.1, (((aProg a0 (0 : Int) (5 : Int)).2).2.2.1, (((aProg a0 (0 : Int) (5 : Int)).2).2.2.2.1, ((aProg a0 (0 : Int) (5 : Int)).2).2.2.2.2)))) (pick ((a0)) (nextAt ((aProg a0 (0 : Int) (5 : Int)).1)) [(0 : Int), (60 : Int), (110 : Int), (130 : Int), (250 : Int), (-1 : Int), (86400001 : Int)])).1) == (encR (((aProg a0 (0 : Int) (5 : Int)).2).1, (((aProg a0 (0 : Int) (5 : Int)).2).2.1, (((aProg a0 (0 : Int) (5 : Int)).2).2.2.1, (((aProg a0 (0 : Int) (5 : Int)).2).2.2.2.1, ((aProg a0 (0 : Int) (5 : Int)).2).2.2.2.2)))) (pick ((a0)) (nextAt ((aProg a0 (0 : Int) (5 : Int)).1)) [(0 : Int), (60 : Int), (110 : Int), (130 : Int), (250 : Int), (-1 : Int), (86400001 : Int)]))) (some ⟨[.dat .bool true], []⟩) (some ⟨[.dat .bool false], []⟩)) none) (some ⟨[.dat .bool false], []⟩)) (some ⟨[.dat .bool false], []⟩)) none) (some ⟨[.dat .bool false], []⟩)) none) (cond (((fitF (((aProg a0 (0 : Int) (5 : Int)).2).1, (((aProg a0 (0 : Int) (5 : Int)).2).2.1, (((aProg a0 (0 : Int) (5 : Int)).2).2.2.1, (((aProg a0 (0 : Int) (5 : Int)).2).2.2.2.1, ((aProg a0 (0 : Int) (5 : Int)).2).2.2.2.2)))) (pick (a0) ((aProg a0 (0 : Int) (5 : Int)).1) [(0 : Int), (99 : Int), (150 : Int), (260 : Int), (400 : Int), (1000 : Int), (-1 : Int), (5184000001 : Int)])).2) == (firstE [(checkProg keyR (((aProg a0 (0 : Int) (5 : Int)).2).1, (((aProg a0 (0 : Int) (5 : Int)).2).2.1, (((aProg a0 (0 : Int) (5 : Int)).2).2.2.1, (((aProg a0 (0 : Int) (5 : Int)).2).2.2.2.1, ((aProg a0 (0 : Int) (5 : Int)).2).2.2.2.2))))), (t24_0 true (1 : Int))])) (cond (decide (List.length ((fitF (((aProg a0 (0 : Int) (5 : Int)).2).1, (((aProg a0 (0 : Int) (5 : Int)).2).2.1, (((aProg a0 (0 : Int) (5 : Int)).2).2.2.1, (((aProg a0 (0 : Int) (5 : Int)).2).2.2.2.1, ((aProg a0 (0 : Int) (5 : Int)).2).2.2.2.2)))) (pick (a0) ((aProg a0 (0 : Int) (5 : Int)).1) [(0 : Int), (99 : Int), (150 : Int), (260 : Int), (400 : Int), (1000 : Int), (-1 : Int), (5184000001 : Int)])).1) ≤ 1000)) (cond (((fitF (((aProg a0 (0 : Int) (5 : Int)).2).1, (((aProg a0 (0 : Int) (5 : Int)).2).2.1, (((aProg a0 (0 : Int) (5 : Int)).2).2.2.1, (((aProg a0 (0 : Int) (5 : Int)).2).2.2.2.1, ((aProg a0 (0 : Int) (5 : Int)).2).2.2.2.2)))) (pick (a0) ((aProg a0 (0 : Int) (5 : Int)).1) [(0 : Int), (99 : Int), (150 : Int), (260 : Int), (400 : Int), (1000 : Int), (-1 : Int), (5184000001 : Int)])).1) == (fitR (((aProg a0 (0 : Int) (5 : Int)).2).1, (((aProg a0 (0 : Int) (5 : Int)).2).2.1, (((aProg a0 (0 : Int) (5 : Int)).2).2.2.1, (((aProg a0 (0 : Int) (5 : Int)).2).2.2.2.1, ((aProg a0 (0 : Int) (5 : Int)).2).2.2.2.2)))) (pick (a0) ((aProg a0 (0 : Int) (5 : Int)).1) [(0 : Int), (99 : Int), (150 : Int), (260 : Int), (400 : Int), (1000 : Int), (-1 : Int), (5184000001 : Int)]))) (cond (((encF (((aProg a0 (0 : Int) (5 : Int)).2).1, (((aProg a0 (0 : Int) (5 : Int)).2).2.1, (((aProg a0 (0 : Int) (5 : Int)).2).2.2.1, (((aProg a0 (0 : Int) (5 : Int)).2).2.2.2.1, ((aProg a0 (0 : Int) (5 : Int)).2).2.2.2.2)))) (pick ((a0)) (nextAt ((aProg a0 (0 : Int) (5 : Int)).1)) [(0 : Int), (60 : Int), (110 : Int), (130 : Int), (250 : Int), (-1 : Int), (86400001 : Int)])).2) == (firstE [(checkProg keyR (((aProg a0 (0 : Int) (5 : Int)).2).1, (((aProg a0 (0 : Int) (5 : Int)).2).2.1, (((aProg a0 (0 : Int) (5 : Int)).2).2.2.1, (((aProg a0 (0 : Int) (5 : Int)).2).2.2.2.1, ((aProg a0 (0 : Int) (5 : Int)).2).2.2.2.2))))), (t24_0 (decide ((pick ((a0)) (nextAt ((aProg a0 (0 : Int) (5 : Int)).1)) [(0 : Int), (60 : Int), (110 : Int), (130 : Int), (250 : Int), (-1 : Int), (86400001 : Int)]) > (86400000 : Int))) (1 : Int)), (t24_0 (((List.length ((aProg a0 (0 : Int) (5 : Int)).2).1 : Nat) : Int) == (0 : Int)) (8 : Int))])) (cond (decide (List.length ((encF (((aProg a0 (0 : Int) (5 : Int)).2).1, (((aProg a0 (0 : Int) (5 : Int)).2).2.1, (((aProg a0 (0 : Int) (5 : Int)).2).2.2.1, (((aProg a0 (0 : Int) (5 : Int)).2).2.2.2.1, ((aProg a0 (0 : Int) (5 : Int)).2).2.2.2.2)))) (pick ((a0)) (nextAt ((aProg a0 (0 : Int) (5 : Int)).1)) [(0 : Int), (60 : Int), (110 : Int), (130 : Int), (250 : Int), (-1 : Int), (86400001 : Int)])).1) ≤ 1000)) (cond (((encF (((aProg a0 (0 : Int) (5 : Int)).2).1, (((aProg a0 (0 : Int) (5 : Int)).2).2.1, (((aProg a0 (0 : Int) (5 : Int)).2).2.2.1, (((aProg a0 (0 : Int) (5 : Int)).2).2.2.2.1, ((aProg a0 (0 : Int) (5 : Int)).2).2.2.2.2)))) (pick ((a0)) (nextAt ((aProg a0 (0 : Int) (5 : Int)).1)) [(0 : Int), (60 : Int), (110 : Int), (130 : Int), (250 : Int), (-1 : Int), (86400001 : Int)])).1) == ([] : List Bytes)) (some ⟨[.dat .bool true], []⟩) (some ⟨[.dat .bool false], []⟩)) none) (some ⟨[.dat .bool false], []⟩)) (some ⟨[.dat .bool false], []⟩)) none) (some ⟨[.dat .bool false], []⟩))) none) (cond ((firstE [(checkProg keyR (((aProg a0 (0 : Int) (5 : Int)).2).1, (((aProg a0 (0 : Int) (5 : Int)).2).2.1, (((aProg a0 (0 : Int) (5 : Int)).2).2.2.1, (((aProg a0 (0 : Int) (5 : Int)).2).2.2.2.1, ((aProg a0 (0 : Int) (5 : Int)).2).2.2.2.2))))), (t24_0 (decide ((pick ((a0)) (nextAt ((aProg a0 (0 : Int) (5 : Int)).1)) [(0 : Int), (60 : Int), (110 : Int), (130 : Int), (250 : Int), (-1 : Int), (86400001 : Int)]) > (86400000 : Int))) (1 : Int)), (t24_0 (((List.length ((aProg a0 (0 : Int) (5 : Int)).2).1 : Nat) : Int) == (0 : Int)) (8 : Int))]) == (0 : Int)) (cond (decide (List.length (((aProg a0 (0 : Int) (5 : Int)).2).1, (((aProg a0 (0 : Int) (5 : Int)).2).2.1, (((aProg a0 (0 : Int) (5 : Int)).2).2.2.1, (((aProg a0 (0 : Int) (5 : Int)).2).2.2.2.1, ((aProg a0 (0 : Int) (5 : Int)).2).2.2.2.2)))).1 ≤ 5) && decide (0 < List.length (((aProg a0 (0 : Int) (5 : Int)).2).1, (((aProg a0 (0 : Int) (5 : Int)).2).2.1, (((aProg a0 (0 : Int) (5 : Int)).2).2.2.1, (((aProg a0 (0 : Int) (5 : Int)).2).2.2.2.1, ((aProg a0 (0 : Int) (5 : Int)).2).2.2.2.2)))).1)) (cond (((fitF (((aProg a0 (0 : Int) (5 : Int)).2).1, (((aProg a0 (0 : Int) (5 : Int)).2).2.1, (((aProg a0 (0 : Int) (5 : Int)).2).2.2.1, (((aProg a0 (0 : Int) (5 : Int)).2).2.2.2.1, ((aProg a0 (0 : Int) (5 : Int)).2).2.2.2.2)))) (pick (a0) ((aProg a0 (0 : Int) (5 : Int)).1) [(0 : Int), (99 : Int), (150 : Int), (260 : Int), (400 : Int), (1000 : Int), (-1 : Int), (5184000001 : Int)])).2) == (firstE [(checkProg keyR (((aProg a0 (0 : Int) (5 : Int)).2).1, (((aProg a0 (0 : Int) (5 : Int)).2).2.1, (((aProg a0 (0 : Int) (5 : Int)).2).2.2.1, (((aProg a0 (0 : Int) (5 : Int)).2).2.2.2.1, ((aProg a0 (0 : Int) (5 : Int)).2).2.2.2.2))))), (t24_0 true (1 : Int))])) (cond (decide (List.length ((fitF (((aProg a0 (0 : Int) (5 : Int)).2).1, (((aProg a0 (0 : Int) (5 : Int)).2).2.1, (((aProg a0 (0 : Int) (5 : Int)).2).2.2.1, (((aProg a0 (0 : Int) (5 : Int)).2).2.2.2.1, ((aProg a0 (0 : Int) (5 : Int)).2).2.2.2.2)))) (pick (a0) ((aProg a0 (0 : Int) (5 : Int)).1) [(0 : Int), (99 : Int), (150 : Int), (260 : Int), (400 : Int), (1000 : Int), (-1 : Int), (5184000001 : Int)])).1) ≤ 1000)) (cond (((fitF (((aProg a0 (0 : Int) (5 : Int)).2).1, (((aProg a0 (0 : Int) (5 : Int)).2).2.1, (((aProg a0 (0 : Int) (5 : Int)).2).2.2.1, (((aProg a0 (0 : Int) (5 : Int)).2).2.2.2.1, ((aProg a0 (0 : Int) (5 : Int)).2).2.2.2.2)))) (pick (a0) ((aProg a0 (0 : Int) (5 : Int)).1) [(0 : Int), (99 : Int), (150 : Int), (260 : Int), (400 : Int), (1000 : Int), (-1 : Int), (5184000001 : Int)])).1) == ([] : List Bytes)) (cond (((encF (((aProg a0 (0 : Int) (5 : Int)).2).1, (((aProg a0 (0 : Int) (5 : Int)).2).2.1, (((aProg a0 (0 : Int) (5 : Int)).2).2.2.1, (((aProg a0 (0 : Int) (5 : Int)).2).2.2.2.1, ((aProg a0 (0 : Int) (5 : Int)).2).2.2.2.2)))) (pick ((a0)) (nextAt ((aProg a0 (0 : Int) (5 : Int)).1)) [(0 : Int), (60 : Int), (110 : Int), (130 : Int), (250 : Int), (-1 : Int), (86400001 : Int)])).2) == (firstE [(checkProg keyR (((aProg a0 (0 : Int) (5 : Int)).2).1, (((aProg a0 (0 : Int) (5 : Int)).2).2.1, (((aProg a0 (0 : Int) (5 : Int)).2).2.2.1, (((aProg a0 (0 : Int) (5 : Int)).2).2.2.2.1, ((aProg a0 (0 : Int) (5 : Int)).2).2.2.2.2))))), (t24_0 (decide ((pick ((a0)) (nextAt ((aProg a0 (0 : Int) (5 : Int)).1)) [(0 : Int), (60 : Int), (110 : Int), (130 : Int), (250 : Int), (-1 : Int), (86400001 : Int)]) > (86400000 : Int))) (1 : Int)), (t24_0 (((List.length ((aProg a0 (0 : Int) (5 : Int)).2).1 : Nat) : Int) == (0 : Int)) (8 : Int))])) (cond (decide (List.length ((encF (((aProg a0 (0 : Int) (5 : Int)).2).1, (((aProg a0 (0 : Int) (5 : Int)).2).2.1, (((aProg a0 (0 : Int) (5 : Int)).2).2.2.1, (((aProg a0 (0 : Int) (5 : Int)).2).2.2.2.1, ((aProg a0 (0 : Int) (5 : Int)).2).2.2.2.2)))) (pick ((a0)) (nextAt ((aProg a0 (0 : Int) (5 : Int)).1)) [(0 : Int), (60 : Int), (110 : Int), (130 : Int), (250 : Int), (-1 : Int), (86400001 : Int)])).1) ≤ 1000)) (cond (((encF (((aProg a0 (0 : Int) (5 : Int)).2).1, (((aProg a0 (0 : Int) (5 : Int)).2).2.1, (((aProg a0 (0 : Int) (5 : Int)).2).2.2.1, (((aProg a0 (0 : Int) (5 : Int)).2).2.2.2.1, ((aProg a0 (0 : Int) (5 : Int)).2).2.2.2.2)))) (pick ((a0)) (nextAt ((aProg a0 (0 : Int) (5 : Int)).1)) [(0 : Int), (60 : Int), (110 : Int), (130 : Int), (250 : Int), (-1 : Int), (86400001 : Int)])).1) == (encR (((aProg a0 (0 : Int) (5 : Int)).2).1, (((aProg a0 (0 : Int) (5 : Int)).2).2.1, (((aProg a0 (0 : Int) (5 : Int)).2).2.2.1, (((aProg a0 (0 : Int) (5 : Int)).2).2.2.2.1, ((aProg a0 (0 : Int) (5 : Int)).2).2.2.2.2)))) (pick ((a0)) (nextAt ((aProg a0 (0 : Int) (5 : Int)).1)) [(0 : Int), (60 : Int), (110 : Int), (130 : Int), (250 : Int), (-1 : Int), (86400001 : Int)]))) (some ⟨[.dat .bool true], []⟩) (some ⟨[.dat .bool false], []⟩)) none) (some ⟨[.dat .bool false], []⟩)) (some ⟨[.dat .bool false], []⟩)) none) (some ⟨[.dat .bool false], []⟩)) none) (cond (((fitF (((aProg a0 (0 : Int) (5 : Int)).2).1, (((aProg a0 (0 : Int) (5 : Int)).2).2.1, (((aProg a0 (0 : Int) (5 : Int)).2).2.2.1, (((aProg a0 (0 : Int) (5 : Int)).2).2.2.2.1, ((aProg a0 (0 : Int) (5 : Int)).2).2.2.2.2)))) (pick (a0) ((aProg a0 (0 : Int) (5 : Int)).1) [(0 : Int), (99 : Int), (150 : Int), (260 : Int), (400 : Int), (1000 : Int), (-1 : Int), (5184000001 : Int)])).2) == (firstE [(checkProg keyR (((aProg a0 (0 : Int) (5 : Int)).2).1, (((aProg a0 (0 : Int) (5 : Int)).2).2.1, (((aProg a0 (0 : Int) (5 : Int)).2).2.2.1, (((aProg a0 (0 : Int) (5 : Int)).2).2.2.2.1, ((aProg a0 (0 : Int) (5 : Int)).2).2.2.2.2))))), (t24_0 true (1 : Int))])) (cond (decide (List.length ((fitF (((aProg a0 (0 : Int) (5 : Int)).2).1, (((aProg a0 (0 : Int) (5 : Int)).2).2.1, (((aProg a0 (0 : Int) (5 : Int)).2).2.2.1, (((aProg a0 (0 : Int) (5 : Int)).2).2.2.2.1, ((aProg a0 (0 : Int) (5 : Int)).2).2.2.2.2)))) (pick (a0) ((aProg a0 (0 : Int) (5 : Int)).1) [(0 : Int), (99 : Int), (150 : Int), (260 : Int), (400 : Int), (1000 : Int), (-1 : Int), (5184000001 : Int)])).1) ≤ 1000)) (cond (((fitF (((aProg a0 (0 : Int) (5 : Int)).2).1, (((aProg a0 (0 : Int) (5 : Int)).2).2.1, (((aProg a0 (0 : Int) (5 : Int)).2).2.2.1, (((aProg a0 (0 : Int) (5 : Int)).2).2.2.2.1, ((aProg a0 (0 : Int) (5 : Int)).2).2.2.2.2)))) (pick (a0) ((aProg a0 (0 : Int) (5 : Int)).1) [(0 : Int), (99 : Int), (150 : Int), (260 : Int), (400 : Int), (1000 : Int), (-1 : Int), (5184000001 : Int)])).1) == ([] : List Bytes)) (cond (((encF (((aProg a0 (0 : Int) (5 : Int)).2).1, (((aProg a0 (0 : Int) (5 : Int)).2).2.1, (((aProg a0 (0 : Int) (5 : Int)).2).2.2.1, (((aProg a0 (0 : Int) (5 : Int)).2).2.2.2.1, ((aProg a0 (0 : Int) (5 : Int)).2).2.2.2.2)))) (pick ((a0)) (nextAt ((aProg a0 (0 : Int) (5 : Int)).1)) [(0 : Int), (60 : Int), (110 : Int), (130 : Int), (250 : Int), (-1 : Int), (86400001 : Int)])).2) == (firstE [(checkProg keyR (((aProg a0 (0 : Int) (5 : Int)).2).1, (((aProg a0 (0 : Int) (5 : Int)).2).2.1, (((aProg a0 (0 : Int) (5 : Int)).2).2.2.1, (((aProg a0 (0 : Int) (5 : Int)).2).2.2.2.1, ((aProg a0 (0 : Int) (5 : Int)).2).2.2.2.2))))), (t24_0 (decide ((pick ((a0)) (nextAt ((aProg a0 (0 : Int) (5 : Int)).1)) [(0 : Int), (60 : Int), (110 : Int), (130 : Int), (250 : Int), (-1 : Int), (86400001 : Int)]) > (86400000 : Int))) (1 : Int)), (t24_0 (((List.length ((aProg a0 (0 : Int) (5 : Int)).2).1 : Nat) : Int) == (0 : Int)) (8 : Int))])) (cond (decide (List.length ((encF (((aProg a0 (0 : Int) (5 : Int)).2).1, (((aProg a0 (0 : Int) (5 : Int)).2).2.1, (((aProg a0 (0 : Int) (5 : Int)).2).2.2.1, (((aProg a0 (0 : Int) (5 : Int)).2).2.2.2.1, ((aProg a0 (0 : Int) (5 : Int)).2).2.2.2.2)))) (pick ((a0)) (nextAt ((aProg a0 (0 : Int) (5 : Int)).1)) [(0 : Int), (60 : Int), (110 : Int), (130 : Int), (250 : Int), (-1 : Int), (86400001 : Int)])).1) ≤ 1000)) (cond (((encF (((aProg a0 (0 : Int) (5 : Int)).2).1, (((aProg a0 (0 : Int) (5 : Int)).2).2.1, (((aProg a0 (0 : Int) (5 : Int)).2).2.2.1, (((aProg a0 (0 : Int) (5 : Int)).2).2.2.2.1, ((aProg a0 (0 : Int) (5 : Int)).2).2.2.2.2)))) (pick ((a0)) (nextAt ((aProg a0 (0 : Int) (5 : Int)).1)) [(0 : Int), (60 : Int), (110 : Int), (130 : Int), (250 : Int), (-1 : Int), (86400001 : Int)])).1) == ([] : List Bytes)) (some ⟨[.dat .bool true], []⟩) (some ⟨[.dat .bool false], []⟩)) none) (some ⟨[.dat .bool false], []⟩)) (some ⟨[.dat .bool false], []⟩)) none) (some ⟨[.dat .bool false], []⟩)))) none)) none) (cond (decide (List.length [(checkProg keyR (((aProg a0 (0 : Int) (5 : Int)).2).1, (((aProg a0 (0 : Int) (5 : Int)).2).2.1, (((aProg a0 (0 : Int) (5 : Int)).2).2.2.1, (((aProg a0 (0 : Int) (5 : Int)).2).2.2.2.1, ((aProg a0 (0 : Int) (5 : Int)).2).2.2.2.2))))), (t24_0 (decide ((pick (a0) ((aProg a0 (0 : Int) (5 : Int)).1) [(0 : Int), (99 : Int), (150 : Int), (260 : Int), (400 : Int), (1000 : Int), (-1 : Int), (5184000001 : Int)]) > (5184000000 : Int))) (1 : Int))] ≤ 1000)) (cond (decide ((pick ((a0)) (nextAt ((aProg a0 (0 : Int) (5 : Int)).1)) [(0 : Int), (60 : Int), (110 : Int), (130 : Int), (250 : Int), (-1 : Int), (86400001 : Int)]) < (0 : Int))) (cond (decide (List.length [(checkProg keyR (((aProg a0 (0 : Int) (5 : Int)).2).1, (((aProg a0 (0 : Int) (5 : Int)).2).2.1, (((aProg a0 (0 : Int) (5 : Int)).2).2.2.1, (((aProg a0 (0 : Int) (5 : Int)).2).2.2.2.1, ((aProg a0 (0 : Int) (5 : Int)).2).2.2.2.2))))), (t24_0 true (1 : Int)), (t24_0 (((List.length ((aProg a0 (0 : Int) (5 : Int)).2).1 : Nat) : Int) == (0 : Int)) (8 : Int))] ≤ 1000)) (cond ((firstE [(checkProg keyR (((aProg a0 (0 : Int) (5 : Int)).2).1, (((aProg a0 (0 : Int) (5 : Int)).2).2.1, (((aProg a0 (0 : Int) (5 : Int)).2).2.2.1, (((aProg a0 (0 : Int) (5 : Int)).2).2.2.2.1, ((aProg a0 (0 : Int) (5 : Int)).2).2.2.2.2))))), (t24_0 (decide ((pick (a0) ((aProg a0 (0 : Int) (5 : Int)).1) [(0 : Int), (99 : Int), (150 : Int), (260 : Int), (400 : Int), (1000 : Int), (-1 : Int), (5184000001 : Int)]) > (5184000000 : Int))) (1 : Int))]) == (0 : Int)) (cond (decide (List.length (((aProg a0 (0 : Int) (5 : Int)).2).1, (((aProg a0 (0 : Int) (5 : Int)).2).2.1, (((aProg a0 (0 : Int) (5 : Int)).2).2.2.1, (((aProg a0 (0 : Int) (5 : Int)).2).2.2.2.1, ((aProg a0 (0 : Int) (5 : Int)).2).2.2.2.2)))).1 ≤ 5)) (cond ((firstE [(checkProg keyR (((aProg a0 (0 : Int) (5 : Int)).2).1, (((aProg a0 (0 : Int) (5 : Int)).2).2.1, (((aProg a0 (0 : Int) (5 : Int)).2).2.2.1, (((aProg a0 (0 : Int) (5 : Int)).2).2.2.2.1, ((aProg a0 (0 : Int) (5 : Int)).2).2.2.2.2))))), (t24_0 true (1 : Int)), (t24_0 (((List.length ((aProg a0 (0 : Int) (5 : Int)).2).1 : Nat) : Int) == (0 : Int)) (8 : Int))]) == (0 : Int)) (cond (decide (List.length (((aProg a0 (0 : Int) (5 : Int)).2).1, (((aProg a0 (0 : Int) (5 : Int)).2).2.1, (((aProg a0 (0 : Int) (5 : Int)).2).2.2.1, (((aProg a0 (0 : Int) (5 : Int)).2).2.2.2.1, ((aProg a0 (0 : Int) (5 : Int)).2).2.2.2.2)))).1 ≤ 5) && decide (0 < List.length (((aProg a0 (0 : Int) (5 : Int)).2).1, (((aProg a0 (0 : Int) (5 : Int)).2).2.1, (((aProg a0 (0 : Int) (5 : Int)).2).2.2.1, (((aProg a0 (0 : Int) (5 : Int)).2).2.2.2.1, ((aProg a0 (0 : Int) (5 : Int)).2).2.2.2.2)))).1)) (cond (((fitF (((aProg a0 (0 : Int) (5 : Int)).2).1, (((aProg a0 (0 : Int) (5 : Int)).2).2.1, (((aProg a0 (0 : Int) (5 : Int)).2).2.2.1, (((aProg a0 (0 : Int) (5 : Int)).2).2.2.2.1, ((aProg a0 (0 : Int) (5 : Int)).2).2.2.2.2)))) (pick (a0) ((aProg a0 (0 : Int) (5 : Int)).1) [(0 : Int), (99 : Int), (150 : Int), (260 : Int), (400 : Int), (1000 : Int), (-1 : Int), (5184000001 : Int)])).2) == (firstE [(checkProg keyR (((aProg a0 (0 : Int) (5 : Int)).2).1, (((aProg a0 (0 : Int) (5 : Int)).2).2.1, (((aProg a0 (0 : Int) (5 : Int)).2).2.2.1, (((aProg a0 (0 : Int) (5 : Int)).2).2.2.2.1, ((aProg a0 (0 : Int) (5 : Int)).2).2.2.2.2))))), (t24_0 (decide ((pick (a0) ((aProg a0 (0 : Int) (5 : Int)).1) [(0 : Int), (99 : Int), (150 : Int), (260 : Int), (400 : Int), (1000 : Int), (-1 : Int), (5184000001 : Int)]) > (5184000000 : Int))) (1 : Int))])) (cond (decide (List.length ((fitF (((aProg a0 (0 : Int) (5 : Int)).2).1, (((aProg a0 (0 : Int) (5 : Int)).2).2.1, (((aProg a0 (0 : Int) (5 : Int)).2).2.2.1, (((aProg a0 (0 : Int) (5 : Int)).2).2.2.2.1, ((aProg a0 (0 : Int) (5 : Int)).2).2.2.2.2)))) (pick (a0) ((aProg a0 (0 : Int) (5 : Int)).1) [(0 : Int), (99 : Int), (150 : Int), (260 : Int), (400 : Int), (1000 : Int), (-1 : Int), (5184000001 : Int)])).1) ≤ 1000)) (cond (((fitF (((aProg a0 (0 : Int) (5 : Int)).2).1, (((aProg a0 (0 : Int) (5 : Int)).2).2.1, (((aProg a0 (0 : Int) (5 : Int)).2).2.2.1, (((aProg a0 (0 : Int) (5 : Int)).2).2.2.2.1, ((aProg a0 (0 : Int) (5 : Int)).2).2.2.2.2)))) (pick (a0) ((aProg a0 (0 : Int) (5 : Int)).1) [(0 : Int), (99 : Int), (150 : Int), (260 : Int), (400 : Int), (1000 : Int), (-1 : Int), (5184000001 : Int)])).1) == (fitR (((aProg a0 (0 : Int) (5 : Int)).2).1, (((aProg a0 (0 : Int) (5 : Int)).2).2.1, (((aProg a0 (0 : Int) (5 : Int)).2).2.2.1, (((aProg a0 (0 : Int) (5 : Int)).2).2.2.2.1, ((aProg a0 (0 : Int) (5 : Int)).2).2.2.2.2)))) (pick (a0) ((aProg a0 (0 : Int) (5 : Int)).1) [(0 : Int), (99 : Int), (150 : Int), (260 : Int), (400 : Int), (1000 : Int), (-1 : Int), (5184000001 : Int)]))) (cond (((encF (((aProg a0 (0 : Int) (5 : Int)).2).1, (((aProg a0 (0 : Int) (5 : Int)).2).2.1, (((aProg a0 (0 : Int) (5 : Int)).2).2.2.1, (((aProg a0 (0 : Int) (5 : Int)).2).2.2.2.1, ((aProg a0 (0 : Int) (5 : Int)).2).2.2.2.2)))) (pick ((a0)) (nextAt ((aProg a0 (0 : Int) (5 : Int)).1)) [(0 : Int), (60 : Int), (110 : Int), (130 : Int), (250 : Int), (-1 : Int), (86400001 : Int)])).2) == (firstE [(checkProg keyR (((aProg a0 (0 : Int) (5 : Int)).2).1, (((aProg a0 (0 : Int) (5 : Int)).2).2.1, (((aProg a0 (0 : Int) (5 : Int)).2).2.2.1, (((aProg a0 (0 : Int) (5 : Int)).2).2.2.2.1, ((aProg a0 (0 : Int) (5 : Int)).2).2.2.2.2))))), (t24_0 true (1 : Int)), (t24_0 (((List.length ((aProg a0 (0 : Int) (5 : Int)).2).1 : Nat) : Int) == (0 : Int)) (8 : Int))])) (cond (decide (List.length ((encF (((aProg a0 (0 : Int) (5 : Int)).2).1, (((aProg a0 (0 : Int) (5 : Int)).2).2.1, (((aProg a0 (0 : Int) (5 : Int)).2).2.2.1, (((aProg a0 (0 : Int) (5 : Int)).2).2.2.2.1, ((aProg a0 (0 : Int) (5 : Int)).2).2.2.2.2)))) (pick ((a0)) (nextAt ((aProg a0 (0 : Int) (5 : Int)).1)) [(0 : Int), (60 : Int), (110 : Int), (130 : Int), (250 : Int), (-1 : Int), (86400001 : Int)])).1) ≤ 1000)) (cond (((encF (((aProg a0 (0 : Int) (5 : Int)).2).1, (((aProg a0 (0 : Int) (5 : Int)).2).2.1, (((aProg a0 (0 : Int) (5 : Int)).2).2.2.1, (((aProg a0 (0 : Int) (5 : Int)).2).2.2.2.1, ((aProg a0 (0 : Int) (5 : Int)).2).2.2.2.2)))) (pick ((a0)) (nextAt ((aProg a0 (0 : Int) (5 : Int)).1)) [(0 : Int), (60 : Int), (110 : Int), (130 : Int), (250 : Int), (-1 : Int), (86400001 : Int)])).1) == (encR (((aProg a0 (0 : Int) (5 : Int)).2).1, (((aProg a0 (0 : Int) (5 : Int)).2).2.1, (((aProg a0 (0 : Int) (5 : Int)).2).2.2.1, (((aProg a0 (0 : Int) (5 : Int)).2).2.2.2.1, ((aProg a0 (0 : Int) (5 : Int)).2).2.2.2.2)))) (pick ((a0)) (nextAt ((aProg a0 (0 : Int) (5 : Int)).1)) [(0 : Int), (60 : Int), (110 : Int), (130 : Int), (250 : Int), (-1 : Int), (86400001 : Int)]))) (some ⟨[.dat .bool true], []⟩) (some ⟨[.dat .bool false], []⟩)) none) (some ⟨[.dat .bool false], []⟩)) (some ⟨[.dat .bool false], []⟩)) none) (some ⟨[.dat .bool false], []⟩)) none) (cond (((fitF (((aProg a0 (0 : Int) (5 : Int)).2).1, (((aProg a0 (0 : Int) (5 : Int)).2).2.1, (((aProg a0 (0 : Int) (5 : Int)).2).2.2.1, (((aProg a0 (0 : Int) (5 : Int)).2).2.2.2.1, ((aProg a0 (0 : Int) (5 : Int)).2).2.2.2.2)))) (pick (a0) ((aProg a0 (0 : Int) (5 : Int)).1) [(0 : Int), (99 : Int), (150 : Int), (260 : Int), (400 : Int), (1000 : Int), (-1 : Int), (5184000001 : Int)])).2) == (firstE [(checkProg keyR (((aProg a0 (0 : Int) (5 : Int)).2).1, (((aProg a0 (0 : Int) (5 : Int)).2).2.1, (((aProg a0 (0 : Int) (5 : Int)).2).2.2.1, (((aProg a0 (0 : Int) (5 : Int)).2).2.2.2.1, ((aProg a0 (0 : Int) (5 : Int)).2).2.2.2.2))))), (t24_0 (decide ((pick (a0) ((aProg a0 (0 : Int) (5 : Int)).1) [(0 : Int), (99 : Int), (150 : Int), (260 : Int), (400 : Int), (1000 : Int), (-1 : Int), (5184000001 : Int)]) > (5184000000 : Int))) (1 : Int))])) (cond (decide (List.length ((fitF (((aProg a0 (0 : Int) (5 : Int)).2).1, (((aProg a0 (0 : Int) (5 : Int)).2).2.1, (((aProg a0 (0 : Int) (5 : Int)).2).2.2.1, (((aProg a0 (0 : Int) (5 : Int)).2).2.2.2.1, ((aProg a0 (0 : Int) (5 : Int)).2).2.2.2.2)))) (pick (a0) ((aProg a0 (0 : Int) (5 : Int)).1) [(0 : Int), (99 : Int), (150 : Int), (260 : Int), (400 : Int), (1000 : Int), (-1 : Int), (5184000001 : Int)])).1) ≤ 1000)) (cond (((fitF (((aProg a0 (0 : Int) (5 : Int)).2).1, (((aProg a0 (0 : Int) (5 : Int)).2).2.1, (((aProg a0 (0 : Int) (5 : Int)).2).2.2.1, (((aProg a0 (0 : Int) (5 : Int)).2).2.2.2.1, ((aProg a0 (0 : Int) (5 : Int)).2).2.2.2.2)))) (pick (a0) ((aProg a0 (0 : Int) (5 : Int)).1) [(0 : Int), (99 : Int), (150 : Int), (260 : Int), (400 : Int), (1000 : Int), (-1 : Int), (5184000001 : Int)])).1) == (fitR (((aProg a0 (0 : Int) (5 : Int)).2).1, (((aProg a0 (0 : Int) (5 : Int)).2).2.1, (((aProg a0 (0 : Int) (5 : Int)).2).2.2.1, (((aProg a0 (0 : Int) (5 : Int)).2).2.2.2.1, ((aProg a0 (0 : Int) (5 : Int)).2).2.2.2.2)))) (pick (a0) ((aProg a0 (0 : Int) (5 : Int)).1) [(0 : Int), (99 : Int), (150 : Int), (260 : Int), (400 : Int), (1000 : Int), (-1 : Int), (5184000001 : Int)]))) (cond (((encF (((aProg a0 (0 : Int) (5 : Int)).2).1, (((aProg a0 (0 : Int) (5 : Int)).2).2.1, (((aProg a0 (0 : Int) (5 : Int)).2).2.2.1, (((aProg a0 (0 : Int) (5 : Int)).2).2.2.2.1, ((aProg a0 (0 : Int) (5 : Int)).2).2.2.2.2)))) (pick ((a0)) (nextAt ((aProg a0 (0 : Int) (5 : Int)).1)) [(0 : Int), (60 : Int), (110 : Int), (130 : Int), (250 : Int), (-1 : Int), (86400001 : Int)])).2) == (firstE [(checkProg keyR (((aProg a0 (0 : Int) (5 : Int)).2).1, (((aProg a0 (0 : Int) (5 : Int)).2).2.1, (((aProg a0 (0 : Int) (5 : Int)).2).2.2.1, (((aProg a0 (0 : Int) (5 : Int)).2).2.2.2.1, ((aProg a0 (0 : Int) (5 : Int)).2).2.2.2.2))))), (t24_0 true (1 : Int)), (t24_0 (((List.length ((aProg a0 (0 : Int) (5 : Int)).2).1 : Nat) : Int) == (0 : Int)) (8 : Int))])) (cond (decide (List.length ((encF (((aProg a0 (0 : Int) (5 : Int)).2).1, (((aProg a0 (0 : Int) (5 : Int)).2).2.1, (((aProg a0 (0 : Int) (5 : Int)).2).2.2.1, (((aProg a0 (0 : Int) (5 : Int)).2).2.2.2.1, ((aProg a0 (0 : Int) (5 : Int)).2).2.2.2.2)))) (pick ((a0)) (nextAt ((aProg a0 (0 : Int) (5 : Int)).1)) [(0 : Int), (60 : Int), (110 : Int), (130 : Int), (250 : Int), (-1 : Int), (86400001 : Int)])).1) ≤ 1000)) (cond (((encF (((aProg a0 (0 : Int) (5 : Int)).2).1, (((aProg a0 (0 : Int) (5 : Int)).2).2.1, (((aProg a0 (0 : Int) (5 : Int)).2).2.2.1, (((aProg a0 (0 : Int) (5 : Int)).2).2.2.2.1, ((aProg a0 (0 : Int) (5 : Int)).2).2.2.2.2)))) (pick ((a0)) (nextAt ((aProg a0 (0 : Int) (5 : Int)).1)) [(0 : Int), (60 : Int), (110 : Int), (130 : Int), (250 : Int), (-1 : Int), (86400001 : Int)])).1) == ([] : List Bytes)) (some ⟨[.dat .bool true], []⟩) (some ⟨[.dat .bool false], []⟩)) none) (some ⟨[.dat .bool false], []⟩)) (some ⟨[.dat .bool false], []⟩)) none) (some ⟨[.dat .bool false], []⟩))) none) (cond ((firstE [(checkProg keyR (((aProg a0 (0 : Int) (5 : Int)).2).1, (((aProg a0 (0 : Int) (5 : Int)).2).2.1, (((aProg a0 (0 : Int) (5 : Int)).2).2.2.1, (((aProg a0 (0 : Int) (5 : Int)).2).2.2.2.1, ((aProg a0 (0 : Int) (5 : Int)).2).2.2.2.2))))), (t24_0 true (1 : Int)), (t24_0 (((List.length ((aProg a0 (0 : Int) (5 : Int)).2).1 : Nat) : Int) == (0 : Int)) (8 : Int))]) == (0 : Int)) (cond (decide (List.length (((aProg a0 (0 : Int) (5 : Int)).2).1, (((aProg a0 (0 : Int) (5 : Int)).2).2.1, (((aProg a0 (0 : Int) (5 : Int)).2).2.2.1, (((aProg a0 (0 : Int) (5 : Int)).2).2.2.2.1, ((aProg a0 (0 : Int) (5 : Int)).2).2.2.2.2)))).1 ≤ 5) && decide (0 < List.length (((aProg a0 (0 : Int) (5 : Int)).2).1, (((aProg a0 (0 : Int) (5 : Int)).2).2.1, (((aProg a0 (0 : Int) (5 : Int)).2).2.2.1, (((aProg a0 (0 : Int) (5 : Int)).2).2.2.2.1, ((aProg a0 (0 : Int) (5 : Int)).2).2.2.2.2)))).1)) (cond (((fitF (((aProg a0 (0 : Int) (5 : Int)).2).1, (((aProg a0 (0 : Int) (5 : Int)).2).2.1, (((aProg a0 (0 : Int) (5 : Int)).2).2.2.1, (((aProg a0 (0 : Int) (5 : Int)).2).2.2.2.1, ((aProg a0 (0 : Int) (5 : Int)).2).2.2.2.2)))) (pick (a0) ((aProg a0 (0 : Int) (5 : Int)).1) [(0 : Int), (99 : Int), (150 : Int), (260 : Int), (400 : Int), (1000 : Int), (-1 : Int), (5184000001 : Int)])).2) == (firstE [(checkProg keyR (((aProg a0 (0 : Int) (5 : Int)).2).1, (((aProg a0 (0 : Int) (5 : Int)).2).2.1, (((aProg a0 (0 : Int) (5 : Int)).2).2.2.1, (((aProg a0 (0 : Int) (5 : Int)).2).2.2.2.1, ((aProg a0 (0 : Int) (5 : Int)).2).2.2.2.2))))), (t24_0 (decide ((pick (a0) ((aProg a0 (0 : Int) (5 : Int)).1) [(0 : Int), (99 : Int), (150 : Int), (260 : Int), (400 : Int), (1000 : Int), (-1 : Int), (5184000001 : Int)]) > (5184000000 : Int))) (1 : Int))])) (cond (decide (List.length ((fitF (((aProg a0 (0 : Int) (5 : Int)).2).1, (((aProg a0 (0 : Int) (5 : Int)).2).2.1, (((aProg a0 (0 : Int) (5 : Int)).2).2.2.1, (((aProg a0 (0 : Int) (5 : Int)).2).2.2.2.1, ((aProg a0 (0 : Int) (5 : Int)).2).2.2.2.2)))) (pick (a0) ((aProg a0 (0 : Int) (5 : Int)).1) [(0 : Int), (99 : Int), (150 : Int), (260 : Int), (400 : Int), (1000 : Int), (-1 : Int), (5184000001 : Int)])).1) ≤ 1000)) (cond (((fitF (((aProg a0 (0 : Int) (5 : Int)).2).1, (((aProg a0 (0 : Int) (5 : Int)).2).2.1, (((aProg a0 (0 : Int) (5 : Int)).2).2.2.1, (((aProg a0 (0 : Int) (5 : Int)).2).2.2.2.1, ((aProg a0 (0 : Int) (5 : Int)).2).2.2.2.2)))) (pick (a0) ((aProg a0 (0 : Int) (5 : Int)).1) [(0 : Int), (99 : Int), (150 : Int), (260 : Int), (400 : Int), (1000 : Int), (-1 : Int), (5184000001 : Int)])).1) == ([] : List Bytes)) (cond (((encF (((aProg a0 (0 : Int) (5 : Int)).2).1, (((aProg a0 (0 : Int) (5 : Int)).2).2.1, (((aProg a0 (0 : Int) (5 : Int)).2).2.2.1, (((aProg a0 (0 : Int) (5 : Int)).2).2.2.2.1, ((aProg a0 (0 : Int) (5 : Int)).2).2.2.2.2)))) (pick ((a0)) (nextAt ((aProg a0 (0 : Int) (5 : Int)).1)) [(0 : Int), (60 : Int), (110 : Int), (130 : Int), (250 : Int), (-1 : Int), (86400001 : Int)])).2) == (firstE [(checkProg keyR (((aProg a0 (0 : Int) (5 : Int)).2).1, (((aProg a0 (0 : Int) (5 : Int)).2).2.1, (((aProg a0 (0 : Int) (5 : Int)).2).2.2.1, (((aProg a0 (0 : Int) (5 : Int)).2).2.2.2.1, ((aProg a0 (0 : Int) (5 : Int)).2).2.2.2.2))))), (t24_0 true (1 : Int)), (t24_0 (((List.length ((aProg a0 (0 : Int) (5 : Int)).2).1 : Nat) : Int) == (0 : Int)) (8 : Int))])) (cond (decide (List.length ((encF (((aProg a0 (0 : Int) (5 : Int)).2).1, (((aProg a0 (0 : Int) (5 : Int)).2).2.1, (((aProg a0 (0 : Int) (5 : Int)).2).2.2.1, (((aProg a0 (0 : Int) (5 : Int)).2).2.2.2.1, ((aProg a0 (0 : Int) (5 : Int)).2).2.2.2.2)))) (pick ((a0)) (nextAt ((aProg a0 (0 : Int) (5 : Int)).1)) [(0 : Int), (60 : Int), (110 : Int), (130 : Int), (250 : Int), (-1 : Int), (86400001 : Int)])).1) ≤ 1000)) (cond (((encF (((aProg a0 (0 : Int) (5 : Int)).2).1, (((aProg a0 (0 : Int) (5 : Int)).2).2.1, (((aProg a0 (0 : Int) (5 : Int)).2).2.2.1, (((aProg a0 (0 : Int) (5 : Int)).2).2.2.2.1, ((aProg a0 (0 : Int) (5 : Int)).2).2.2.2.2)))) (pick ((a0)) (nextAt ((aProg a0 (0 : Int) (5 : Int)).1)) [(0 : Int), (60 : Int), (110 : Int), (130 : Int), (250 : Int), (-1 : Int), (86400001 : Int)])).1) == (encR (((aProg a0 (0 : Int) (5 : Int)).2).1, (((aProg a0 (0 : Int) (5 : Int)).2).2.1, (((aProg a0 (0 : Int) (5 : Int)).2).2.2.1, (((aProg a0 (0 : Int) (5 : Int)).2).2.2.2.1, ((aProg a0 (0 : Int) (5 : Int)).2).2.2.2.2)))) (pick ((a0)) (nextAt ((aProg a0 (0 : Int) (5 : Int)).1)) [(0 : Int), (60 : Int), (110 : Int), (130 : Int), (250 : Int), (-1 : Int), (86400001 : Int)]))) (some ⟨[.dat .bool true], []⟩) (some ⟨[.dat .bool false], []⟩)) none) (some ⟨[.dat .bool false], []⟩)) (some ⟨[.dat .bool false], []⟩)) none) (some ⟨[.dat .bool false], []⟩)) none) (cond (((fitF (((aProg a0 (0 : Int) (5 : Int)).2).1, (((aProg a0 (0 : Int) (5 : Int)).2).2.1, (((aProg a0 (0 : Int) (5 : Int)).2).2.2.1, (((aProg a0 (0 : Int) (5 : Int)).2).2.2.2.1, ((aProg a0 (0 : Int) (5 : Int)).2).2.2.2.2)))) (pick (a0) ((aProg a0 (0 : Int) (5 : Int)).1) [(0 : Int), (99 : Int), (150 : Int), (260 : Int), (400 : Int), (1000 : Int), (-1 : Int), (5184000001 : Int)])).2) == (firstE [(checkProg keyR (((aProg a0 (0 : Int) (5 : Int)).2).1, (((aProg a0 (0 : Int) (5 : Int)).2).2.1, (((aProg a0 (0 : Int) (5 : Int)).2).2.2.1, (((aProg a0 (0 : Int) (5 : Int)).2).2.2.2.1, ((aProg a0 (0 : Int) (5 : Int)).2).2.2.2.2))))), (t24_0 (decide ((pick (a0) ((aProg a0 (0 : Int) (5 : Int)).1) [(0 : Int), (99 : Int), (150 : Int), (260 : Int), (400 : Int), (1000 : Int), (-1 : Int), (5184000001 : Int)]) > (5184000000 : Int))) (1 : Int))])) (cond (decide (List.length ((fitF (((aProg a0 (0 : Int) (5 : Int)).2).1, (((aProg a0 (0 : Int) (5 : Int)).2).2.1, (((aProg a0 (0 : Int) (5 : Int)).2).2.2.1, (((aProg a0 (0 : Int) (5 : Int)).2).2.2.2.1, ((aProg a0 (0 : Int) (5 : Int)).2).2.2.2.2)))) (pick (a0) ((aProg a0 (0 : Int) (5 : Int)).1) [(0 : Int), (99 : Int), (150 : Int), (260 : Int), (400 : Int), (1000 : Int), (-1 : Int), (5184000001 : Int)])).1) ≤ 1000)) (cond (((fitF (((aProg a0 (0 : Int) (5 : Int)).2).1, (((aProg a0 (0 : Int) (5 : Int)).2).2.1, (((aProg a0 (0 : Int) (5 : Int)).2).2.2.1, (((aProg a0 (0 : Int) (5 : Int)).2).2.2.2.1, ((aProg a0 (0 : Int) (5 : Int)).2).2.2.2.2)))) (pick (a0) ((aProg a0 (0 : Int) (5 : Int)).1) [(0 : Int), (99 : Int), (150 : Int), (260 : Int), (400 : Int), (1000 : Int), (-1 : Int), (5184000001 : Int)])).1) == ([] : List Bytes)) (cond (((encF (((aProg a0 (0 : Int) (5 : Int)).2).1, (((aProg a0 (0 : Int) (5 : Int)).2).2.1, (((aProg a0 (0 : Int) (5 : Int)).2).2.2.1, (((aProg a0 (0 : Int) (5 : Int)).2).2.2.2.1, ((aProg a0 (0 : Int) (5 : Int)).2).2.2.2.2)))) (pick ((a0)) (nextAt ((aProg a0 (0 : Int) (5 : Int)).1)) [(0 : Int), (60 : Int), (110 : Int), (130 : Int), (250 : Int), (-1 : Int), (86400001 : Int)])).2) == (firstE [(checkProg keyR (((aProg a0 (0 : Int) (5 : Int)).2).1, (((aProg a0 (0 : Int) (5 : Int)).2).2.1, (((aProg a0 (0 : Int) (5 : Int)).2).2.2.1, (((aProg a0 (0 : Int) (5 : Int)).2).2.2.2.1, ((aProg a0 (0 : Int) (5 : Int)).2).2.2.2.2))))), (t24_0 true (1 : Int)), (t24_0 (((List.length ((aProg a0 (0 : Int) (5 : Int)).2).1 : Nat) : Int) == (0 : Int)) (8 : Int))])) (cond (decide (List.length ((encF (((aProg a0 (0 : Int) (5 : Int)).2).1, (((aProg a0 (0 : Int) (5 : Int)).2).2.1, (((aProg a0 (0 : Int) (5 : Int)).2).2.2.1, (((aProg a0 (0 : Int) (5 : Int)).2).2.2.2.1, ((aProg a0 (0 : Int) (5 : Int)).2).2.2.2.2)))) (pick ((a0)) (nextAt ((aProg a0 (0 : Int) (5 : Int)).1)) [(0 : Int), (60 : Int), (110 : Int), (130 : Int), (250 : Int), (-1 : Int), (86400001 : Int)])).1) ≤ 1000)) (cond (((encF (((aProg a0 (0 : Int) (5 : Int)).2).1, (((aProg a0 (0 : Int) (5 : Int)).2).2.1, (((aProg a0 (0 : Int) (5 : Int)).2).2.2.1, (((aProg a0 (0 : Int) (5 : Int)).2).2.2.2.1, ((aProg a0 (0 : Int) (5 : Int)).2).2.2.2.2)))) (pick ((a0)) (nextAt ((aProg a0 (0 : Int) (5 : Int)).1)) [(0 : Int), (60 : Int), (110 : Int), (130 : Int), (250 : Int), (-1 : Int), (86400001 : Int)])).1) == ([] : List Bytes)) (some ⟨[.dat .bool true], []⟩) (some ⟨[.dat .bool false], []⟩)) none) (some ⟨[.dat .bool false], []⟩)) (some ⟨[.dat .bool false], []⟩)) none) (some ⟨[.dat .bool false], []⟩)))) none) (cond (decide (List.length [(checkProg keyR (((aProg a0 (0 : Int) (5 : Int)).2).1, (((aProg a0 (0 : Int) (5 : Int)).2).2.1, (((aProg a0 (0 : Int) (5 : Int)).2).2.2.1, (((aProg a0 (0 : Int) (5 : Int)).2).2.2.2.1, ((aProg a0 (0 : Int) (5 : Int)).2).2.2.2.2))))), (t24_0 (decide ((pick ((a0)) (nextAt ((aProg a0 (0 : Int) (5 : Int)).1)) [(0 : Int), (60 : Int), (110 : Int), (130 : Int), (250 : Int), (-1 : Int), (86400001 : Int)]) > (86400000 : Int))) (1 : Int)), (t24_0 (((List.length ((aProg a0 (0 : Int) (5 : Int)).2).1 : Nat) : Int) == (0 : Int)) (8 : Int))] ≤ 1000)) (cond ((firstE [(checkProg keyR (((aProg a0 (0 : Int) (5 : Int)).2).1, (((aProg a0 (0 : Int) (5 : Int)).2).2.1, (((aProg a0 (0 : Int) (5 : Int)).2).2.2.1, (((aProg a0 (0 : Int) (5 : Int)).2).2.2.2.1, ((aProg a0 (0 : Int) (5 : Int)).2).2.2.2.2))))), (t24_0 (decide ((pick (a0) ((aProg a0 (0 : Int) (5 : Int)).1) [(0 : Int), (99 : Int), (150 : Int), (260 : Int), (400 : Int), (1000 : Int), (-1 : Int), (5184000001 : Int)]) > (5184000000 : Int))) (1 : Int))]) == (0 : Int)) (cond (decide (List.length (((aProg a0 (0 : Int) (5 : Int)).2).1, (((aProg a0 (0 : Int) (5 : Int)).2).2.1, (((aProg a0 (0 : Int) (5 : Int)).2).2.2.1, (((aProg a0 (0 : Int) (5 : Int)).2).2.2.2.1, ((aProg a0 (0 : Int) (5 : Int)).2).2.2.2.2)))).1 ≤ 5)) (cond ((firstE [(checkProg keyR (((aProg a0 (0 : Int) (5 : Int)).2).1, (((aProg a0 (0 : Int) (5 : Int)).2).2.1, (((aProg a0 (0 : Int) (5 : Int)).2).2.2.1, (((aProg a0 (0 : Int) (5 : Int)).2).2.2.2.1, ((aProg a0 (0 : Int) (5 : Int)).2).2.2.2.2))))), (t24_0 (decide ((pick ((a0)) (nextAt ((aProg a0 (0 : Int) (5 : Int)).1)) [(0 : Int), (60 : Int), (110 : Int), (130 : Int), (250 : Int), (-1 : Int), (86400001 : Int)]) > (86400000 : Int))) (1 : Int)), (t24_0 (((List.length ((aProg a0 (0 : Int) (5 : Int)).2).1 : Nat) : Int) == (0 : Int)) (8 : Int))]) == (0 : Int)) (cond (decide (List.length (((aProg a0 (0 : Int) (5 : Int)).2).1, (((aProg a0 (0 : Int) (5 : Int)).2).2.1, (((aProg a0 (0 : Int) (5 : Int)).2).2.2.1, (((aProg a0 (0 : Int) (5 : Int)).2).2.2.2.1, ((aProg a0 (0 : Int) (5 : Int)).2).2.2.2.2)))).1 ≤ 5) && decide (0 < List.length (((aProg a0 (0 : Int) (5 : Int)).2).1, (((aProg a0 (0 : Int) (5 : Int)).2).2.1, (((aProg a0 (0 : Int) (5 : Int)).2).2.2.1, (((aProg a0 (0 : Int) (5 : Int)).2).2.2.2.1, ((aProg a0 (0 : Int) (5 : Int)).2).2.2.2.2)))).1)) (cond (((fitF (((aProg a0 (0 : Int) (5 : Int)).2).1, (((aProg a0 (0 : Int) (5 : Int)).2).2.1, (((aProg a0 (0 : Int) (5 : Int)).2).2.2.1, (((aProg a0 (0 : Int) (5 : Int)).2).2.2.2.1, ((aProg a0 (0 : Int) (5 : Int)).2).2.2.2.2)))) (pick (a0) ((aProg a0 (0 : Int) (5 : Int)).1) [(0 : Int), (99 : Int), (150 : Int), (260 : Int), (400 : Int), (1000 : Int), (-1 : Int), (5184000001 : Int)])).2) == (firstE [(checkProg keyR (((aProg a0 (0 : Int) (5 : Int)).2).1, (((aProg a0 (0 : Int) (5 : Int)).2).2.1, (((aProg a0 (0 : Int) (5 : Int)).2).2.2.1, (((aProg a0 (0 : Int) (5 : Int)).2).2.2.2.1, ((aProg a0 (0 : Int) (5 : Int)).2).2.2.2.2))))), (t24_0 (decide ((pick (a0) ((aProg a0 (0 : Int) (5 : Int)).1) [(0 : Int), (99 : Int), (150 : Int), (260 : Int), (400 : Int), (1000 : Int), (-1 : Int), (5184000001 : Int)]) > (5184000000 : Int))) (1 : Int))])) (cond (decide (List.length ((fitF (((aProg a0 (0 : Int) (5 : Int)).2).1, (((aProg a0 (0 : Int) (5 : Int)).2).2.1, (((aProg a0 (0 : Int) (5 : Int)).2).2.2.1, (((aProg a0 (0 : Int) (5 : Int)).2).2.2.2.1, ((aProg a0 (0 : Int) (5 : Int)).2).2.2.2.2)))) (pick (a0) ((aProg a0 (0 : Int) (5 : Int)).1) [(0 : Int), (99 : Int), (150 : Int), (260 : Int), (400 : Int), (1000 : Int), (-1 : Int), (5184000001 : Int)])).1) ≤ 1000)) (cond (((fitF (((aProg a0 (0 : Int) (5 : Int)).2).1, (((aProg a0 (0 : Int) (5 : Int)).2).2.1, (((aProg a0 (0 : Int) (5 : Int)).2).2.2.1, (((aProg a0 (0 : Int) (5 : Int)).2).2.2.2.1, ((aProg a0 (0 : Int) (5 : Int)).2).2.2.2.2)))) (pick (a0) ((aProg a0 (0 : Int) (5 : Int)).1) [(0 : Int), (99 : Int), (150 : Int), (260 : Int), (400 : Int), (1000 : Int), (-1 : Int), (5184000001 : Int)])).1) == (fitR (((aProg a0 (0 : Int) (5 : Int)).2).1, (((aProg a0 (0 : Int) (5 : Int)).2).2.1, (((aProg a0 (0 : Int) (5 : Int)).2).2.2.1, (((aProg a0 (0 : Int) (5 : Int)).2).2.2.2.1, ((aProg a0 (0 : Int) (5 : Int)).2).2.2.2.2)))) (pick (a0) ((aProg a0 (0 : Int) (5 : Int)).1) [(0 : Int), (99 : Int), (150 : Int), (260 : Int), (400 : Int), (1000 : Int), (-1 : Int), (5184000001 : Int)]))) (cond (((encF (((aProg a0 (0 : Int) (5 : Int)).2).1, (((aProg a0 (0 : Int) (5 : Int)).2).2.1, (((aProg a0 (0 : Int) (5 : Int)).2).2.2.1, (((aProg a0 (0 : Int) (5 : Int)).2).2.2.2.1, ((aProg a0 (0 : Int) (5 : Int)).2).2.2.2.2)))) (pick ((a0)) (nextAt ((aProg a0 (0 : Int) (5 : Int)).1)) [(0 : Int), (60 : Int), (110 : Int), (130 : Int), (250 : Int), (-1 : Int), (86400001 : Int)])).2) == (firstE [(checkProg keyR (((aProg a0 (0 : Int) (5 : Int)).2).1, (((aProg a0 (0 : Int) (5 : Int)).2).2.1, (((aProg a0 (0 : Int) (5 : Int)).2).2.2.1, (((aProg a0 (0 : Int) (5 : Int)).2).2.2.2.1, ((aProg a0 (0 : Int) (5 : Int)).2).2.2.2.2))))), (t24_0 (decide ((pick ((a0)) (nextAt ((aProg a0 (0 : Int) (5 : Int)).1)) [(0 : Int), (60 : Int), (110 : Int), (130 : Int), (250 : Int), (-1 : Int), (86400001 : Int)]) > (86400000 : Int))) (1 : Int)), (t24_0 (((List.length ((aProg a0 (0 : Int) (5 : Int)).2).1 : Nat) : Int) == (0 : Int)) (8 : Int))])) (cond (decide (List.length ((encF (((aProg a0 (0 : Int) (5 : Int)).2).1, (((aProg a0 (0 : Int) (5 : Int)).2).2.1, (((aProg a0 (0 : Int) (5 : Int)).2).2.2.1, (((aProg a0 (0 : Int) (5 : Int)).2).2.2.2.1, ((aProg a0 (0 : Int) (5 : Int)).2).2.2.2.2)))) (pick ((a0)) (nextAt ((aProg a0 (0 : Int) (5 : Int)).1)) [(0 : Int), (60 : Int), (110 : Int), (130 : Int), (250 : Int), (-1 : Int), (86400001 : Int)])).1) ≤ 1000)) (cond (((encF (((aProg a0 (0 : Int) (5 : Int)).2).1, (((aProg a0 (0 : Int) (5 : Int)).2).2.1, (((aProg a0 (0 : Int) (5 : Int)).2).2.2.1, (((aProg a0 (0 : Int) (5 : Int)).2).2.2.2.1, ((aProg a0 (0 : Int) (5 : Int)).2).2.2.2.2)))) (pick ((a0)) (nextAt ((aProg a0 (0 : Int) (5 : Int)).1)) [(0 : Int), (60 : Int), (110 : Int), (130 : Int), (250 : Int), (-1 : Int), (86400001 : Int)])).1) == (encR (((aProg a0 (0 : Int) (5 : Int)).2).1, (((aProg a0 (0 : Int) (5 : Int)).2).2.1, (((aProg a0 (0 : Int) (5 : Int)).2).2.2.1, (((aProg a0 (0 : Int) (5 : Int)).2).2.2.2.1, ((aProg a0 (0 : Int) (5 : Int)).2).2.2.2.2)))) (pick ((a0)) (nextAt ((aProg a0 (0 : Int) (5 : Int)).1)) [(0 : Int), (60 : Int), (110 : Int), (130 : Int), (250 : Int), (-1 : Int), (86400001 : Int)]))) (some ⟨[.dat .bool true], []⟩) (some ⟨[.dat .bool false], []⟩)) none) (some ⟨[.dat .bool false], []⟩)) (some ⟨[.dat .bool false], []⟩)) none) (some ⟨[.dat .bool false], []⟩)) none) (cond (((fitF (((aProg a0 (0 : Int) (5 : Int)).2).1, (((aProg a0 (0 : Int) (5 : Int)).2).2.1, (((aProg a0 (0 : Int) (5 : Int)).2).2.2.1, (((aProg a0 (0 : Int) (5 : Int)).2).2.2.2.1, ((aProg a0 (0 : Int) (5 : Int)).2).2.2.2.2)))) (pick (a0) ((aProg a0 (0 : Int) (5 : Int)).1) [(0 : Int), (99 : Int), (150 : Int), (260 : Int), (400 : Int), (1000 : Int), (-1 : Int), (5184000001 : Int)])).2) == (firstE [(checkProg keyR (((aProg a0 (0 : Int) (5 : Int)).2).1, (((aProg a0 (0 : Int) (5 : Int)).2).2.1, (((aProg a0 (0 : Int) (5 : Int)).2).2.2.1, (((aProg a0 (0 : Int) (5 : Int)).2).2.2.2.1, ((aProg a0 (0 : Int) (5 : Int)).2).2.2.2.2))))), (t24_0 (decide ((pick (a0) ((aProg a0 (0 : Int) (5 : Int)).1) [(0 : Int), (99 : Int), (150 : Int), (260 : Int), (400 : Int), (1000 : Int), (-1 : Int), (5184000001 : Int)]) > (5184000000 : Int))) (1 : Int))])) (cond (decide (List.length ((fitF (((aProg a0 (0 : Int) (5 : Int)).2).1, (((aProg a0 (0 : Int) (5 : Int)).2).2.1, (((aProg a0 (0 : Int) (5 : Int)).2).2.2.1, (((aProg a0 (0 : Int) (5 : Int)).2).2.2.2.1, ((aProg a0 (0 : Int) (5 : Int)).2).2.2.2.2)))) (pick (a0) ((aProg a0 (0 : Int) (5 : Int)).1) [(0 : Int), (99 : Int), (150 : Int), (260 : Int), (400 : Int), (1000 : Int), (-1 : Int), (5184000001 : Int)])).1) ≤ 1000)) (cond (((fitF (((aProg a0 (0 : Int) (5 : Int)).2).1, (((aProg a0 (0 : Int) (5 : Int)).2).2.1, (((aProg a0 (0 : Int) (5 : Int)).2).2.2.1, (((aProg a0 (0 : Int) (5 : Int)).2).2.2.2.1, ((aProg a0 (0 : Int) (5 : Int)).2).2.2.2.2)))) (pick (a0) ((aProg a0 (0 : Int) (5 : Int)).1) [(0 : Int), (99 : Int), (150 : Int), (260 : Int), (400 : Int), (1000 : Int), (-1 : Int), (5184000001 : Int)])).1) == (fitR (((aProg a0 (0 : Int) (5 : Int)).2).1, (((aProg a0 (0 : Int) (5 : Int)).2).2.1, (((aProg a0 (0 : Int) (5 : Int)).2).2.2.1, (((aProg a0 (0 : Int) (5 : Int)).2).2.2.2.1, ((aProg a0 (0 : Int) (5 : Int)).2).2.2.2.2)))) (pick (a0) ((aProg a0 (0 : Int) (5 : Int)).1) [(0 : Int), (99 : Int), (150 : Int), (260 : Int), (400 : Int), (1000 : Int), (-1 : Int), (5184000001 : Int)]))) (cond (((encF (((aProg a0 (0 : Int) (5 : Int)).2).1, (((aProg a0 (0 : Int) (5 : Int)).2).2.1, (((aProg a0 (0 : Int) (5 : Int)).2).2.2.1, (((aProg a0 (0 : Int) (5 : Int)).2).2.2.2.1, ((aProg a0 (0 : Int) (5 : Int)).2).2.2.2.2)))) (pick ((a0)) (nextAt ((aProg a0 (0 : Int) (5 : Int)).1)) [(0 : Int), (60 : Int), (110 : Int), (130 : Int), (250 : Int), (-1 : Int), (86400001 : Int)])).2) == (firstE [(checkProg keyR (((aProg a0 (0 : Int) (5 : Int)).2).1, (((aProg a0 (0 : Int) (5 : Int)).2).2.1, (((aProg a0 (0 : Int) (5 : Int)).2).2.2.1, (((aProg a0 (0 : Int) (5 : Int)).2).2.2.2.1, ((aProg a0 (0 : Int) (5 : Int)).2).2.2.2.2))))), (t24_0 (decide ((pick ((a0)) (nextAt ((aProg a0 (0 : Int) (5 : Int)).1)) [(0 : Int), (60 : Int), (110 : Int), (130 : Int), (250 : Int), (-1 : Int), (86400001 : Int)]) > (86400000 : Int))) (1 : Int)), (t24_0 (((List.length ((aProg a0 (0 : Int) (5 : Int)).2).1 : Nat) : Int) == (0 : Int)) (8 : Int))])) (cond (decide (List.length ((encF (((aProg a0 (0 : Int) (5 : Int)).2).1, (((aProg a0 (0 : Int) (5 : Int)).2).2.1, (((aProg a0 (0 : Int) (5 : Int)).2).2.2.1, (((aProg a0 (0 : Int) (5 : Int)).2).2.2.2.1, ((aProg a0 (0 : Int) (5 : Int)).2).2.2.2.2)))) (pick ((a0)) (nextAt ((aProg a0 (0 : Int) (5 : Int)).1)) [(0 : Int), (60 : Int), (110 : Int), (130 : Int), (250 : Int), (-1 : Int), (86400001 : Int)])).1) ≤ 1000)) (cond (((encF (((aProg a0 (0 : Int) (5 : Int)).2).1, (((aProg a0 (0 : Int) (5 : Int)).2).2.1, (((aProg a0 (0 : Int) (5 : Int)).2).2.2.1, (((aProg a0 (0 : Int) (5 : Int)).2).2.2.2.1, ((aProg a0 (0 : Int) (5 : Int)).2).2.2.2.2)))) (pick ((a0)) (nextAt ((aProg a0 (0 : Int) (5 : Int)).1)) [(0 : Int), (60 : Int), (110 : Int), (130 : Int), (250 : Int), (-1 : Int), (86400001 : Int)])).1) == ([] : List Bytes)) (some ⟨[.dat .bool true], []⟩) (some ⟨[.dat .bool false], []⟩)) none) (some ⟨[.dat .bool false], []⟩)) (some ⟨[.dat .bool false], []⟩)) none) (some ⟨[.dat .bool false], []⟩))) none) (cond ((firstE [(checkProg keyR (((aProg a0 (0 : Int) (5 : Int)).2).1, (((aProg a0 (0 : Int) (5 : Int)).2).2.1, (((aProg a0 (0 : Int) (5 : Int)).2).2.2.1, (((aProg a0 (0 : Int) (5 : Int)).2).2.2.2.1, ((aProg a0 (0 : Int) (5 : Int)).2).2.2.2.2))))), (t24_0 (decide ((pick ((a0)) (nextAt ((aProg a0 (0 : Int) (5 : Int)).1)) [(0 : Int), (60 : Int), (110 : Int), (130 : Int), (250 : Int), (-1 : Int), (86400001 : Int)]) > (86400000 : Int))) (1 : Int)), (t24_0 (((List.length ((aProg a0 (0 : Int) (5 : Int)).2).1 : Nat) : Int) == (0 : Int)) (8 : Int))]) == (0 : Int)) (cond (decide (List.length (((aProg a0 (0 : Int) (5 : Int)).2).1, (((aProg a0 (0 : Int) (5 : Int)).2).2.1, (((aProg a0 (0 : Int) (5 : Int)).2).2.2.1, (((aProg a0 (0 : Int) (5 : Int)).2).2.2.2.1, ((aProg a0 (0 : Int) (5 : Int)).2).2.2.2.2)))).1 ≤ 5) && decide (0 < List.length (((aProg a0 (0 : Int) (5 : Int)).2).1, (((aProg a0 (0 : Int) (5 : Int)).2).2.1, (((aProg a0 (0 : Int) (5 : Int)).2).2.2.1, (((aProg a0 (0 : Int) (5 : Int)).2).2.2.2.1, ((aProg a0 (0 : Int) (5 : Int)).2).2.2.2.2)))).1)) (cond (((fitF (((aProg a0 (0 : Int) (5 : Int)).2).1, (((aProg a0 (0 : Int) (5 : Int)).2).2.1, (((aProg a0 (0 : Int) (5 : Int)).2).2.2.1, (((aProg a0 (0 : Int) (5 : Int)).2).2.2.2.1, ((aProg a0 (0 : Int) (5 : Int)).2).2.2.2.2)))) (pick (a0) ((aProg a0 (0 : Int) (5 : Int)).1) [(0 : Int), (99 : Int), (150 : Int), (260 : Int), (400 : Int), (1000 : Int), (-1 : Int), (5184000001 : Int)])).2) == (firstE [(checkProg keyR (((aProg a0 (0 : Int) (5 : Int)).2).1, (((aProg a0 (0 : Int) (5 : Int)).2).2.1, (((aProg a0 (0 : Int) (5 : Int)).2).2.2.1, (((aProg a0 (0 : Int) (5 : Int)).2).2.2.2.1, ((aProg a0 (0 : Int) (5 : Int)).2).2.2.2.2))))), (t24_0 (decide ((pick (a0) ((aProg a0 (0 : Int) (5 : Int)).1) [(0 : Int), (99 : Int), (150 : Int), (260 : Int), (400 : Int), (1000 : Int), (-1 : Int), (5184000001 : Int)]) > (5184000000 : Int))) (1 : Int))])) (cond (decide (List.length ((fitF (((aProg a0 (0 : Int) (5 : Int)).2).1, (((aProg a0 (0 : Int) (5 : Int)).2).2.1, (((aProg a0 (0 : Int) (5 : Int)).2).2.2.1, (((aProg a0 (0 : Int) (5 : Int)).2).2.2.2.1, ((aProg a0 (0 : Int) (5 : Int)).2).2.2.2.2)))) (pick (a0) ((aProg a0 (0 : Int) (5 : Int)).1) [(0 : Int), (99 : Int), (150 : Int), (260 : Int), (400 : Int), (1000 : Int), (-1 : Int), (5184000001 : Int)])).1) ≤ 1000)) (cond (((fitF (((aProg a0 (0 : Int) (5 : Int)).2).1, (((aProg a0 (0 : Int) (5 : Int)).2).2.1, (((aProg a0 (0 : Int) (5 : Int)).2).2.2.1, (((aProg a0 (0 : Int) (5 : Int)).2).2.2.2.1, ((aProg a0 (0 : Int) (5 : Int)).2).2.2.2.2)))) (pick (a0) ((aProg a0 (0 : Int) (5 : Int)).1) [(0 : Int), (99 : Int), (150 : Int), (260 : Int), (400 : Int), (1000 : Int), (-1 : Int), (5184000001 : Int)])).1) == ([] : List Bytes)) (cond (((encF (((aProg a0 (0 : Int) (5 : Int)).2).1, (((aProg a0 (0 : Int) (5 : Int)).2).2.1, (((aProg a0 (0 : Int) (5 : Int)).2).2.2.1, (((aProg a0 (0 : Int) (5 : Int)).2).2.2.2.1, ((aProg a0 (0 : Int) (5 : Int)).2).2.2.2.2)))) (pick ((a0)) (nextAt ((aProg a0 (0 : Int) (5 : Int)).1)) [(0 : Int), (60 : Int), (110 : Int), (130 : Int), (250 : Int), (-1 : Int), (86400001 : Int)])).2) == (firstE [(checkProg keyR (((aProg a0 (0 : Int) (5 : Int)).2).1, (((aProg a0 (0 : Int) (5 : Int)).2).2.1, (((aProg a0 (0 : Int) (5 : Int)).2).2.2.1, (((aProg a0 (0 : Int) (5 : Int)).2).2.2.2.1, ((aProg a0 (0 : Int) (5 : Int)).2).2.2.2.2))))), (t24_0 (decide ((pick ((a0)) (nextAt ((aProg a0 (0 : Int) (5 : Int)).1)) [(0 : Int), (60 : Int), (110 : Int), (130 : Int), (250 : Int), (-1 : Int), (86400001 : Int)]) > (86400000 : Int))) (1 : Int)), (t24_0 (((List.length ((aProg a0 (0 : Int) (5 : Int)).2).1 : Nat) : Int) == (0 : Int)) (8 : Int))])) (cond (decide (List.length ((encF (((aProg a0 (0 : Int) (5 : Int)).2).1, (((aProg a0 (0 : Int) (5 : Int)).2).2.1, (((aProg a0 (0 : Int) (5 : Int)).2).2.2.1, (((aProg a0 (0 : Int) (5 : Int)).2).2.2.2.1, ((aProg a0 (0 : Int) (5 : Int)).2).2.2.2.2)))) (pick ((a0)) (nextAt ((aProg a0 (0 : Int) (5 : Int)).1)) [(0 : Int), (60 : Int), (110 : Int), (130 : Int), (250 : Int), (-1 : Int), (86400001 : Int)])).1) ≤ 1000)) (cond (((encF (((aProg a0 (0 : Int) (5 : Int)).2).1, (((aProg a0 (0 : Int) (5 : Int)).2).2.1, (((aProg a0 (0 : Int) (5 : Int)).2).2.2.1, (((aProg a0 (0 : Int) (5 : Int)).2).2.2.2.1, ((aProg a0 (0 : Int) (5 : Int)).2).2.2.2.2)))) (pick ((a0)) (nextAt ((aProg a0 (0 : Int) (5 : Int)).1)) [(0 : Int), (60 : Int), (110 : Int), (130 : Int), (250 : Int), (-1 : Int), (86400001 : Int)])).1) == (encR (((aProg a0 (0 : Int) (5 : Int)).2).1, (((aProg a0 (0 : Int) (5 : Int)).2).2.1, (((aProg a0 (0 : Int) (5 : Int)).2).2.2.1, (((aProg a0 (0 : Int) (5 : Int)).2).2.2.2.1, ((aProg a0 (0 : Int) (5 : Int)).2).2.2.2.2)))) (pick ((a0)) (nextAt ((aProg a0 (0 : Int) (5 : Int)).1)) [(0 : Int), (60 : Int), (110 : Int), (130 : Int), (250 : Int), (-1 : Int), (86400001 : Int)]))) (some ⟨[.dat .bool true], []⟩) (some ⟨[.dat .bool false], []⟩)) none) (some ⟨[.dat .bool false], []⟩)) (some ⟨[.dat .bool false], []⟩)) none) (some ⟨[.dat .bool false], []⟩)) none) (cond (((fitF (((aProg a0 (0 : Int) (5 : Int)).2).1, (((aProg a0 (0 : Int) (5 : Int)).2).2.1, (((aProg a0 (0 : Int) (5 : Int)).2).2.2.1, (((aProg a0 (0 : Int) (5 : Int)).2).2.2.2.1, ((aProg a0 (0 : Int) (5 : Int)).2).2.2.2.2)))) (pick (a0) ((aProg a0 (0 : Int) (5 : Int)).1) [(0 : Int), (99 : Int), (150 : Int), (260 : Int), (400 : Int), (1000 : Int), (-1 : Int), (5184000001 : Int)])).2) == (firstE [(checkProg keyR (((aProg a0 (0 : Int) (5 : Int)).2).1, (((aProg a0 (0 : Int) (5 : Int)).2).2.1, (((aProg a0 (0 : Int) (5 : Int)).2).2.2.1, (((aProg a0 (0 : Int) (5 : Int)).2).2.2.2.1, ((aProg a0 (0 : Int) (5 : Int)).2).2.2.2.2))))), (t24_0 (decide ((pick (a0) ((aProg a0 (0 : Int) (5 : Int)).1) [(0 : Int), (99 : Int), (150 : Int), (260 : Int), (400 : Int), (1000 : Int), (-1 : Int), (5184000001 : Int)]) > (5184000000 : Int))) (1 : Int))])) (cond (decide (List.length ((fitF (((aProg a0 (0 : Int) (5 : Int)).2).1, (((aProg a0 (0 : Int) (5 : Int)).2).2.1, (((aProg a0 (0 : Int) (5 : Int)).2).2.2.1, (((aProg a0 (0 : Int) (5 : Int)).2).2.2.2.1, ((aProg a0 (0 : Int) (5 : Int)).2).2.2.2.2)))) (pick (a0) ((aProg a0 (0 : Int) (5 : Int)).1) [(0 : Int), (99 : Int), (150 : Int), (260 : Int), (400 : Int), (1000 : Int), (-1 : Int), (5184000001 : Int)])).1) ≤ 1000)) (cond (((fitF (((aProg a0 (0 : Int) (5 : Int)).2).1, (((aProg a0 (0 : Int) (5 : Int)).2).2.1, (((aProg a0 (0 : Int) (5 : Int)).2).2.2.1, (((aProg a0 (0 : Int) (5 : Int)).2).2.2.2.1, ((aProg a0 (0 : Int) (5 : Int)).2).2.2.2.2)))) (pick (a0) ((aProg a0 (0 : Int) (5 : Int)).1) [(0 : Int), (99 : Int), (150 : Int), (260 : Int), (400 : Int), (1000 : Int), (-1 : Int), (5184000001 : Int)])).1) == ([] : List Bytes)) (cond (((encF (((aProg a0 (0 : Int) (5 : Int)).2).1, (((aProg a0 (0 : Int) (5 : Int)).2).2.1, (((aProg a0 (0 : Int) (5 : Int)).2).2.2.1, (((aProg a0 (0 : Int) (5 : Int)).2).2.2.2.1, ((aProg a0 (0 : Int) (5 : Int)).2).2.2.2.2)))) (pick ((a0)) (nextAt ((aProg a0 (0 : Int) (5 : Int)).1)) [(0 : Int), (60 : Int), (110 : Int), (130 : Int), (250 : Int), (-1 : Int), (86400001 : Int)])).2) == (firstE [(checkProg keyR (((aProg a0 (0 : Int) (5 : Int)).2).1, (((aProg a0 (0 : Int) (5 : Int)).2).2.1, (((aProg a0 (0 : Int) (5 : Int)).2).2.2.1, (((aProg a0 (0 : Int) (5 : Int)).2).2.2.2.1, ((aProg a0 (0 : Int) (5 : Int)).2).2.2.2.2))))), (t24_0 (decide ((pick ((a0)) (nextAt ((aProg a0 (0 : Int) (5 : Int)).1)) [(0 : Int), (60 : Int), (110 : Int), (130 : Int), (250 : Int), (-1 : Int), (86400001 : Int)]) > (86400000 : Int))) (1 : Int)), (t24_0 (((List.length ((aProg a0 (0 : Int) (5 : Int)).2).1 : Nat) : Int) == (0 : Int)) (8 : Int))])) (cond (decide (List.length ((encF (((aProg a0 (0 : Int) (5 : Int)).2).1, (((aProg a0 (0 : Int) (5 : Int)).2).2.1, (((aProg a0 (0 : Int) (5 : Int)).2).2.2.1, (((aProg a0 (0 : Int) (5 : Int)).2).2.2.2.1, ((aProg a0 (0 : Int) (5 : Int)).2).2.2.2.2)))) (pick ((a0)) (nextAt ((aProg a0 (0 : Int) (5 : Int)).1)) [(0 : Int), (60 : Int), (110 : Int), (130 : Int), (250 : Int), (-1 : Int), (86400001 : Int)])).1) ≤ 1000)) (cond (((encF (((aProg a0 (0 : Int) (5 : Int)).2).1, (((aProg a0 (0 : Int) (5 : Int)).2).2.1, (((aProg a0 (0 : Int) (5 : Int)).2).2.2.1, (((aProg a0 (0 : Int) (5 : Int)).2).2.2.2.1, ((aProg a0 (0 : Int) (5 : Int)).2).2.2.2.2)))) (pick ((a0)) (nextAt ((aProg a0 (0 : Int) (5 : Int)).1)) [(0 : Int), (60 : Int), (110 : Int), (130 : Int), (250 : Int), (-1 : Int), (86400001 : Int)])).1) == ([] : List Bytes)) (some ⟨[.dat .bool true], []⟩) (some ⟨[.dat .bool false], []⟩)) none) (some ⟨[.dat .bool false], []⟩)) (some ⟨[.dat .bool false], []⟩)) none) (some ⟨[.dat .bool false], []⟩)))) none)) none)) none) none) none) none) none) := (I5.run_eq _).trans (by kernel_rfl)
end Go.Ev.L

set_option linter.unusedVariables false
set_option linter.unusedSimpArgs false
set_option maxRecDepth 100000
namespace Go.Ev.L
open Go Go.Ev Go.Proofs
theorem mo : Tryd.prog.follows .mixedOrders = true := by kernel_rfl
theorem e0 : EnvOk Tryd.prog En0 := env_nil (by kernel_rfl)
def R83 : Prop := ∀ (a0 : Int) (a1 : Int), (true) = true → I83.run ⟨[.dat tI a0, .dat tI a1], []⟩ = some ⟨[.dat tI (below a0 a1)], []⟩
theorem sd83 (hE : EnvOk Tryd.prog En0) (h : R83) : EnvOk Tryd.prog En83 := env_add hE (gen_sound I83 hE mo Tryd.func83 rfl rfl (fun x hx => h x.1 x.2.1 hx))
def R41 : Prop := ∀ (a0 : Int) (L : (List Int)) (at_ : Int), (atOk 1 at_) = true → I41.run ⟨[.ptr 0 0, .dat tI a0], [(0, .box [.dat (.slice tI) L, .dat tI at_])]⟩ = some ⟨[.dat tI (next L at_ a0)], [(0, .box [.dat (.slice tI) (L), .dat tI (nextAt at_)])]⟩
theorem sd41 (hE : EnvOk Tryd.prog En83) (h : R41) : EnvOk Tryd.prog En41 := env_add hE (gen_sound I41 hE mo Tryd.func41 rfl rfl (fun x hx => h x.1 x.2.1 x.2.2.1 hx))
def R29 : Prop := ∀ (a0 : Int) (L : (List Int)) (at_ : Int), (atOk 1 at_) = true → I29.run ⟨[.ptr 0 0, .dat tI a0], [(0, .box [.dat (.slice tI) L, .dat tI at_])]⟩ = some ⟨[.dat .bool (next L at_ a0 == 0)], [(0, .box [.dat (.slice tI) (L), .dat tI (nextAt at_)])]⟩
theorem sd29 (hE : EnvOk Tryd.prog En41) (h : R29) : EnvOk Tryd.prog En29 := env_add hE (gen_sound I29 hE mo Tryd.func29 rfl rfl (fun x hx => h x.1 x.2.1 x.2.2.1 hx))
def R30 : Prop := ∀ (a0 : (List Bytes)) (L : (List Int)) (at_ : Int), (atOk 1 at_ && decide (0 < List.length a0) && decide (List.length a0 ≤ 1000)) = true → I30.run ⟨[.ptr 0 0, .dat (.slice .str) a0], [(0, .box [.dat (.slice tI) L, .dat tI at_])]⟩ = some ⟨[.dat .str (some_ L at_ a0)], [(0, .box [.dat (.slice tI) (L), .dat tI (nextAt at_)])]⟩
theorem sd30 (hE : EnvOk Tryd.prog En29) (h : R30) : EnvOk Tryd.prog En30 := env_add hE (gen_sound I30 hE mo Tryd.func30 rfl rfl (fun x hx => h x.1 x.2.1 x.2.2.1 hx))
def R35 : Prop := ∀ (a0 : (List Int)) (L : (List Int)) (at_ : Int), (atOk 1 at_ && decide (0 < List.length a0) && decide (List.length a0 ≤ 1000)) = true → I35.run ⟨[.ptr 0 0, .dat (.slice tI) a0], [(0, .box [.dat (.slice tI) L, .dat tI at_])]⟩ = some ⟨[.dat tI (pick L at_ a0)], [(0, .box [.dat (.slice tI) (L), .dat tI (nextAt at_)])]⟩
theorem sd35 (hE : EnvOk Tryd.prog En30) (h : R35) : EnvOk Tryd.prog En35 := env_add hE (gen_sound I35 hE mo Tryd.func35 rfl rfl (fun x hx => h x.1 x.2.1 x.2.2.1 hx))
def R40 : Prop := ∀ (a0 : Int) (L : (List Int)) (at_ : Int), (atOk 1000 at_ && decide (0 ≤ a0) && decide (a0 ≤ 5)) = true → I40.run ⟨[.ptr 0 0, .dat tI a0], [(0, .box [.dat (.slice tI) L, .dat tI at_])]⟩ = some ⟨[.agg [.slc 2, .dat tI ((rightP L at_ a0).2.2.1), .dat tI ((rightP L at_ a0).2.2.2.1), .dat tI ((rightP L at_ a0).2.2.2.2.1), .dat tI ((rightP L at_ a0).2.2.2.2.2)]], [(0, .box [.dat (.slice tI) (L), .dat tI ((rightP L at_ a0).1)]), (2, .arr tItem ((rightP L at_ a0).2.1))]⟩
theorem sd40 (hE : EnvOk Tryd.prog En35) (h : R40) : EnvOk Tryd.prog En40 := env_add hE (gen_sound I40 hE mo Tryd.func40 rfl rfl (fun x hx => h x.1 x.2.1 x.2.2.1 hx))
def R31 : Prop := ∀ (a0 : Int) (a1 : Int) (L : (List Int)) (at_ : Int), (atOk 1 at_) = true → I31.run ⟨[.ptr 0 0, .dat tI a0, .dat tI a1], [(0, .box [.dat (.slice tI) L, .dat tI at_])]⟩ = some ⟨[.dat tI (rangeS L at_ a0 a1)], [(0, .box [.dat (.slice tI) (L), .dat tI (rangeAt at_ a0 a1)])]⟩
theorem sd31 (hE : EnvOk Tryd.prog En40) (h : R31) : EnvOk Tryd.prog En31 := env_add hE (gen_sound I31 hE mo Tryd.func31 rfl rfl (fun x hx => h x.1 x.2.1 x.2.2.1 x.2.2.2.1 hx))
def R42 : Prop := ∀ (a0 : Int) (a1 : Int) (L : (List Int)) (at_ : Int), (atOk 8 at_) = true → I42.run ⟨[.ptr 0 0, .dat tI a0, .dat tI a1], [(0, .box [.dat (.slice tI) L, .dat tI at_])]⟩ = some ⟨[.dat tI ((oddS L at_ a0 a1).2)], [(0, .box [.dat (.slice tI) (L), .dat tI ((oddS L at_ a0 a1).1)])]⟩
theorem sd42 (hE : EnvOk Tryd.prog En31) (h : R42) : EnvOk Tryd.prog En42 := env_add hE (gen_sound I42 hE mo Tryd.func42 rfl rfl (fun x hx => h x.1 x.2.1 x.2.2.1 x.2.2.2.1 hx))
def R43 : Prop := ∀ (a0 : (List Bytes)), (decide (List.length a0 ≤ 1000)) = true → I43.run ⟨[.dat (.slice .str) a0], []⟩ = some ⟨[.slc 0], [(0, .arr .str (a0))]⟩
theorem sd43 (hE : EnvOk Tryd.prog En42) (h : R43) : EnvOk Tryd.prog En43 := env_add hE (gen_sound I43 hE mo Tryd.func43 rfl rfl (fun x hx => h x.1 hx))
def R6 : Prop := ∀ (a0 : Int) (L : (List Int)) (at_ : Int), (atOk 2000 at_ && a0 == 5) = true → I6.run ⟨[.ptr 0 0, .dat tI a0], [(0, .box [.dat (.slice tI) L, .dat tI at_])]⟩ = some ⟨[.dat tPrgm ((aProg L at_ a0).2)], [(0, .box [.dat (.slice tI) (L), .dat tI ((aProg L at_ a0).1)])]⟩
theorem sd6 (hE : EnvOk Tryd.prog En43) (h : R6) : EnvOk Tryd.prog En6 := env_add hE (gen_sound I6 hE mo Tryd.func6 rfl rfl (fun x hx => h x.1 x.2.1 x.2.2.1 hx))
def R46 : Prop := ∀ (a0 : Int) (a1 : Int) (a2 : Int), (true) = true → I46.run ⟨[.dat tI a0, .dat tI a1, .dat tI a2], []⟩ = some ⟨[.dat .bool (inR a0 a1 a2)], []⟩
theorem sd46 (hE : EnvOk Tryd.prog En6) (h : R46) : EnvOk Tryd.prog En46 := env_add hE (gen_sound I46 hE mo Tryd.func46 rfl rfl (fun x hx => h x.1 x.2.1 x.2.2.1 hx))
def R86 : Prop := Sound Tryd.prog En0.gl 86 S86 ∧ Enters Tryd.prog 86
theorem sd86 (hE : EnvOk Tryd.prog En46) (h : R86) : EnvOk Tryd.prog En86 := env_add hE (h)
def R89 : Prop := ∀ (a0 : Bytes) (a1 : Bytes), (decide (List.length a0 ≤ 1000000)) = true → I89.run ⟨[.dat .str a0, .dat .str a1], []⟩ = some ⟨[.dat .bool (onlyB a0 a1)], []⟩
theorem sd89 (hE : EnvOk Tryd.prog En86) (h : R89) : EnvOk Tryd.prog En89 := env_add hE (gen_sound I89 hE mo Tryd.func89 rfl rfl (fun x hx => h x.1 x.2.1 hx))
def R54 : Prop := ∀ (a0 : Bytes), (true) = true → I54.run ⟨[.dat .str a0], []⟩ = some ⟨[.dat .bool (keyR a0)], []⟩
theorem sd54 (hE : EnvOk Tryd.prog En89) (h : R54) : EnvOk Tryd.prog En54 := env_add hE (gen_sound I54 hE mo Tryd.func54 rfl rfl (fun x hx => h x.1 hx))
def R90 : Prop := ∀ (a0 : Item) (k : Bytes), (true) = true → I90.run ⟨[.dat tItem a0, .ptr 0 0], [(0, .box [.dat .str k])]⟩ = some ⟨[.dat .bool (t90_0 a0 k)], [(0, .box [.dat .str k])]⟩
theorem sd90 (hE : EnvOk Tryd.prog En54) (h : R90) : EnvOk Tryd.prog En90 := env_add hE (gen_sound I90 hE mo Tryd.func90 rfl rfl (fun x hx => h x.1 x.2.1 hx))
theorem r90 : R90 := by
  intro a0 k _
  exact f90_run a0 k
def R88 : Prop := ∀ (a0 : (List Item)) (k : Bytes), (decide (List.length a0 ≤ 1000)) = true → I88.run ⟨[.dat (.slice tItem) a0, .clos 90 [.ptr 0 0]], [(0, .box [.dat .str k])]⟩ = some ⟨[.dat tI (idxBy (fun o => t90_0 o k) a0 0)], [(0, .box [.dat .str (k)])]⟩
theorem sd88 (hE : EnvOk Tryd.prog En90) (h : R88) : EnvOk Tryd.prog En88 := env_add hE (gen_sound I88 hE mo Tryd.func88 rfl rfl (fun x hx => h x.1 x.2.1 hx))
def R55 : Prop := ∀ (a0 : (List Item)) (a1 : Bytes), (t55_ok a0 a1) = true → I55.run ⟨[.dat (.slice tItem) a0, .dat .str a1], []⟩ = some ⟨[.dat tI (t55_0 a0 a1)], []⟩
theorem sd55 (hE : EnvOk Tryd.prog En88) (h : R55) : EnvOk Tryd.prog En55 := env_add hE (gen_sound I55 hE mo Tryd.func55 rfl rfl (fun x hx => h x.1 x.2.1 hx))
theorem rt55 (a0 : (List Item)) (a1 : Bytes) : I55.run ⟨[.dat (.slice tItem) a0, .dat .str a1], []⟩ = (t55 a0 a1).map (fun r => ⟨[.dat tI r], []⟩) := by
  rw [f55_run a0 a1]
  unfold t55
  simp only [omap_cond, Option.map_some, Option.map_none]
theorem r55 : R55 := by
  intro a0 a1 h
  obtain ⟨r, hr⟩ := Option.isSome_iff_exists.1 h
  rw [rt55, hr]
  unfold t55_0
  rw [hr]; rfl
def R56 : Prop := ∀ (a0 : (List Bytes)), (decide (List.length a0 ≤ 1000)) = true → I56.run ⟨[.dat (.slice .str) a0], []⟩ = some ⟨[.dat tI (risingGo keyR none a0)], []⟩
theorem sd56 (hE : EnvOk Tryd.prog En55) (h : R56) : EnvOk Tryd.prog En56 := env_add hE (gen_sound I56 hE mo Tryd.func56 rfl rfl (fun x hx => h x.1 hx))
def R17 : Prop := ∀ (a0 : (List Item)), (true) = true → I17.run ⟨[.dat (.slice tItem) a0], []⟩ = some ⟨[.dat tI (checkItems keyR a0)], []⟩
theorem sd17 (hE : EnvOk Tryd.prog En56) (h : R17) : EnvOk Tryd.prog En17 := env_add hE (gen_sound I17 hE mo Tryd.func17 rfl rfl (fun x hx => h x.1 hx))
def R11 : Prop := ∀ (a0 : Prgm), (true) = true → I11.run ⟨[.dat tPrgm a0], []⟩ = some ⟨[.dat tI (checkProg keyR a0)], []⟩
theorem sd11 (hE : EnvOk Tryd.prog En17) (h : R11) : EnvOk Tryd.prog En11 := env_add hE (gen_sound I11 hE mo Tryd.func11 rfl rfl (fun x hx => h x.1 hx))
def R51 : Prop := ∀ (a0 : Item) (k : Bytes) (pl : Bytes) (lg : Int) (ps : (List Bytes)), (true) = true → I51.run ⟨[.dat tItem a0, .ptr 0 0], [(0, .box [.dat .str k, .dat .str pl, .dat tI lg, .dat (.slice .str) ps])]⟩ = some ⟨[.dat .bool (t51_0 a0 k pl lg ps)], [(0, .box [.dat .str k, .dat .str pl, .dat tI lg, .dat (.slice .str) ps])]⟩
theorem sd51 (hE : EnvOk Tryd.prog En11) (h : R51) : EnvOk Tryd.prog En51 := env_add hE (gen_sound I51 hE mo Tryd.func51 rfl rfl (fun x hx => h x.1 x.2.1 x.2.2.1 x.2.2.2.1 x.2.2.2.2.1 hx))
theorem r51 : R51 := by
  intro a0 k pl lg ps _
  exact f51_run a0 k pl lg ps
def R88a : Prop := ∀ (a0 : (List Item)) (k : Bytes) (pl : Bytes) (lg : Int) (ps : (List Bytes)), (decide (List.length a0 ≤ 1000)) = true → I88a.run ⟨[.dat (.slice tItem) a0, .clos 51 [.ptr 0 0]], [(0, .box [.dat .str k, .dat .str pl, .dat tI lg, .dat (.slice .str) ps])]⟩ = some ⟨[.dat tI (idxBy (fun o => t51_0 o k pl lg ps) a0 0)], [(0, .box [.dat .str (k), .dat .str (pl), .dat tI (lg), .dat (.slice .str) (ps)])]⟩
theorem sd88a (hE : EnvOk Tryd.prog En51) (h : R88a) : EnvOk Tryd.prog En88a := env_or hE rfl (gen_sound I88a hE mo Tryd.func88 rfl rfl (fun x hx => h x.1 x.2.1 x.2.2.1 x.2.2.2.1 x.2.2.2.2.1 hx))
def R50 : Prop := ∀ (a0 : (List Item)) (k : Bytes) (pl : Bytes) (lg : Int) (ps : (List Bytes)), (t50_ok a0 k pl lg ps) = true → I50.run ⟨[.dat (.slice tItem) a0, .clos 51 [.ptr 0 0]], [(0, .box [.dat .str k, .dat .str pl, .dat tI lg, .dat (.slice .str) ps])]⟩ = some ⟨[.dat .bool (t50_0 a0 k pl lg ps)], [(0, .box [.dat .str k, .dat .str pl, .dat tI lg, .dat (.slice .str) ps])]⟩
theorem sd50 (hE : EnvOk Tryd.prog En88a) (h : R50) : EnvOk Tryd.prog En50 := env_add hE (gen_sound I50 hE mo Tryd.func50 rfl rfl (fun x hx => h x.1 x.2.1 x.2.2.1 x.2.2.2.1 x.2.2.2.2.1 hx))
theorem rt50 (a0 : (List Item)) (k : Bytes) (pl : Bytes) (lg : Int) (ps : (List Bytes)) : I50.run ⟨[.dat (.slice tItem) a0, .clos 51 [.ptr 0 0]], [(0, .box [.dat .str k, .dat .str pl, .dat tI lg, .dat (.slice .str) ps])]⟩ = (t50 a0 k pl lg ps).map (fun r => ⟨[.dat .bool r], [(0, .box [.dat .str k, .dat .str pl, .dat tI lg, .dat (.slice .str) ps])]⟩) := by
  rw [f50_run a0 k pl lg ps]
  unfold t50
  simp only [omap_cond, Option.map_some, Option.map_none]
theorem r50 : R50 := by
  intro a0 k pl lg ps h
  obtain ⟨r, hr⟩ := Option.isSome_iff_exists.1 h
  rw [rt50, hr]
  unfold t50_0
  rw [hr]; rfl
def R87 : Prop := Sound Tryd.prog En0.gl 87 S87 ∧ Enters Tryd.prog 87
theorem sd87 (hE : EnvOk Tryd.prog En50) (h : R87) : EnvOk Tryd.prog En87 := env_add hE (h)
def R49 : Prop := ∀ (a0 : Bytes), (true) = true → I49.run ⟨[.dat .str a0], []⟩ = some ⟨[.dat .bool (isKey a0)], []⟩
theorem sd49 (hE : EnvOk Tryd.prog En87) (h : R49) : EnvOk Tryd.prog En49 := env_add hE (gen_sound I49 hE mo Tryd.func49 rfl rfl (fun x hx => h x.1 hx))
def R52 : Prop := ∀ (a0 : Int) (a1 : Int) (a2 : Int), (true) = true → I52.run ⟨[.dat tI a0, .dat tI a1, .dat tI a2], []⟩ = some ⟨[.dat .bool (outside a0 a1 a2)], []⟩
theorem sd52 (hE : EnvOk Tryd.prog En49) (h : R52) : EnvOk Tryd.prog En52 := env_add hE (gen_sound I52 hE mo Tryd.func52 rfl rfl (fun x hx => h x.1 x.2.1 x.2.2.1 hx))
def R53 : Prop := ∀ (a0 : (List Bytes)), (true) = true → I53.run ⟨[.dat (.slice .str) a0], []⟩ = some ⟨[.dat tI (partsF isKey a0)], []⟩
theorem sd53 (hE : EnvOk Tryd.prog En52) (h : R53) : EnvOk Tryd.prog En53 := env_add hE (gen_sound I53 hE mo Tryd.func53 rfl rfl (fun x hx => h x.1 hx))
def R16 : Prop := ∀ (a0 : (List Item)), (true) = true → I16.run ⟨[.dat (.slice tItem) a0], []⟩ = some ⟨[.dat tI (checkItems isKey a0)], []⟩
theorem sd16 (hE : EnvOk Tryd.prog En53) (h : R16) : EnvOk Tryd.prog En16 := env_add hE (gen_sound I16 hE mo Tryd.func16 rfl rfl (fun x hx => h x.1 hx))
def R18 : Prop := ∀ (a0 : Prgm), (true) = true → I18.run ⟨[.dat tPrgm a0], []⟩ = some ⟨[.dat tI (checkProg isKey a0)], []⟩
theorem sd18 (hE : EnvOk Tryd.prog En16) (h : R18) : EnvOk Tryd.prog En18 := env_add hE (gen_sound I18 hE mo Tryd.func18 rfl rfl (fun x hx => h x.1 hx))
def R74 : Prop := ∀ (a0 : Prgm) (a1 : Item) (a2 : Item), (true) = true → I74.run ⟨[.dat tPrgm a0, .dat tItem a1, .dat tItem a2], []⟩ = some ⟨[.dat tI (t74_0 a0 a1 a2)], []⟩
theorem sd74 (hE : EnvOk Tryd.prog En18) (h : R74) : EnvOk Tryd.prog En74 := env_add hE (gen_sound I74 hE mo Tryd.func74 rfl rfl (fun x hx => h x.1 x.2.1 x.2.2.1 hx))
theorem r74 : R74 := by
  intro a0 a1 a2 _
  rw [f74_run a0 a1 a2]
  unfold t74_0 t74
  cases h2 : (!(a1.2.1 == a2.2.1)) with
  | true =>
    simp only [cond_true]
    all_goals rfl
  | false =>
    simp only [cond_false]
    all_goals rfl
def R85 : Prop := ∀ (a0 : Prgm) (a1 : Int), (decide (0 ≤ a1) && decide (a1 + 1 < (List.length a0.1 : Int)) && decide (List.length a0.1 ≤ 1000)) = true → I85.run ⟨[.dat tPrgm a0, .dat tI a1], []⟩ = some ⟨[.dat tI (behindF a0 a1)], []⟩
theorem sd85 (hE : EnvOk Tryd.prog En74) (h : R85) : EnvOk Tryd.prog En85 := env_add hE (gen_sound I85 hE mo Tryd.func85 rfl rfl (fun x hx => h x.1 x.2.1 hx))
def R45 : Prop := ∀ (a0 : Prgm), (decide (List.length a0.1 ≤ 1000)) = true → I45.run ⟨[.dat tPrgm a0], []⟩ = some ⟨[.slc 0, .dat tI ((begGo a0 0 0 a0.1).2)], [(0, .arr tI ((begGo a0 0 0 a0.1).1))]⟩
theorem sd45 (hE : EnvOk Tryd.prog En85) (h : R45) : EnvOk Tryd.prog En45 := env_add hE (gen_sound I45 hE mo Tryd.func45 rfl rfl (fun x hx => h x.1 hx))
def R9 : Prop := ∀ (a0 : Prgm), (true) = true → I9.run ⟨[.dat tPrgm a0], []⟩ = some ⟨[.dat tI ((longP a0).1), .dat tI ((longP a0).2)], []⟩
theorem sd9 (hE : EnvOk Tryd.prog En45) (h : R9) : EnvOk Tryd.prog En9 := env_add hE (gen_sound I9 hE mo Tryd.func9 rfl rfl (fun x hx => h x.1 hx))
def R20 : Prop := (true) = true → I20.run ⟨[], []⟩ = some ⟨[.dat .bool true], []⟩
theorem sd20 (hE : EnvOk Tryd.prog En9) (h : R20) : EnvOk Tryd.prog En20 := env_add hE (gen_sound I20 hE mo Tryd.func20 rfl rfl (fun x hx => h  hx))
def R23 : Prop := ∀ (a0 : (List Int)), (decide (List.length a0 ≤ 1000)) = true → I23.run ⟨[.dat (.slice tI) a0], []⟩ = some ⟨[.dat tI (firstE a0)], []⟩
theorem sd23 (hE : EnvOk Tryd.prog En20) (h : R23) : EnvOk Tryd.prog En23 := env_add hE (gen_sound I23 hE mo Tryd.func23 rfl rfl (fun x hx => h x.1 hx))
def R24 : Prop := ∀ (a0 : Bool) (a1 : Int), (true) = true → I24.run ⟨[.dat .bool a0, .dat tI a1], []⟩ = some ⟨[.dat tI (t24_0 a0 a1)], []⟩
theorem sd24 (hE : EnvOk Tryd.prog En23) (h : R24) : EnvOk Tryd.prog En24 := env_add hE (gen_sound I24 hE mo Tryd.func24 rfl rfl (fun x hx => h x.1 x.2.1 hx))
theorem r24 : R24 := by
  intro a0 a1 _
  rw [f24_run a0 a1]
  unfold t24_0 t24
  cases h2 : a0 with
  | true =>
    simp only [cond_true]
    all_goals rfl
  | false =>
    simp only [cond_false]
    all_goals rfl
def R27 : Prop := ∀ (a0 : (List Bytes)) (a1 : (List Bytes)), (decide (List.length a0 ≤ 1000)) = true → I27.run ⟨[.dat (.slice .str) a0, .dat (.slice .str) a1], []⟩ = some ⟨[.dat .bool (a0 == a1)], []⟩
theorem sd27 (hE : EnvOk Tryd.prog En24) (h : R27) : EnvOk Tryd.prog En27 := env_add hE (gen_sound I27 hE mo Tryd.func27 rfl rfl (fun x hx => h x.1 x.2.1 hx))
def R62 : Prop := ∀ (a0 : Prgm) (a1 : (List Item)), (t62_ok a0 a1) = true → I62.run ⟨[.dat tPrgm a0, .dat (.slice tItem) a1], []⟩ = some ⟨[.dat tI (t62_0 a0 a1)], []⟩
theorem sd62 (hE : EnvOk Tryd.prog En27) (h : R62) : EnvOk Tryd.prog En62 := env_add hE (gen_sound I62 hE mo Tryd.func62 rfl rfl (fun x hx => h x.1 x.2.1 hx))
theorem rt62 (a0 : Prgm) (a1 : (List Item)) : I62.run ⟨[.dat tPrgm a0, .dat (.slice tItem) a1], []⟩ = (t62 a0 a1).map (fun r => ⟨[.dat tI r], []⟩) := by
  rw [f62_run a0 a1]
  unfold t62
  simp only [omap_cond, Option.map_some, Option.map_none]
theorem r62 : R62 := by
  intro a0 a1 h
  obtain ⟨r, hr⟩ := Option.isSome_iff_exists.1 h
  rw [rt62, hr]
  unfold t62_0
  rw [hr]; rfl
def R109 : Prop := ∀ (a0 : Int), (true) = true → I109.run ⟨[.dat tI a0], []⟩ = some ⟨[.dat .bool (t109_0 a0)], []⟩
theorem sd109 (hE : EnvOk Tryd.prog En62) (h : R109) : EnvOk Tryd.prog En109 := env_add hE (gen_sound I109 hE mo Tryd.func109 rfl rfl (fun x hx => h x.1 hx))
theorem r109 : R109 := by
  intro a0 _
  exact f109_run a0
def R92 : Prop := ∀ (a0 : Int) (a1 : Int), (true) = true → I92.run ⟨[.dat tI a0, .dat tI a1], []⟩ = some ⟨[.dat tI (t92_0 a0 a1)], []⟩
theorem sd92 (hE : EnvOk Tryd.prog En109) (h : R92) : EnvOk Tryd.prog En92 := env_add hE (gen_sound I92 hE mo Tryd.func92 rfl rfl (fun x hx => h x.1 x.2.1 hx))
theorem r92 : R92 := by
  intro a0 a1 _
  rw [f92_run a0 a1]
  unfold t92_0 t92
  cases h2 : (t109_0 a0) with
  | true =>
    simp only [cond_true]
    cases h4 : (t109_0 a1) with
    | true =>
      simp only [cond_true]
      all_goals rfl
    | false =>
      simp only [cond_false]
      all_goals rfl
  | false =>
    simp only [cond_false]
    cases h4 : (t109_0 a1) with
    | true =>
      simp only [cond_true]
      all_goals rfl
    | false =>
      simp only [cond_false]
      cases h6 : (decide (a0 < a1)) with
      | true =>
        simp only [cond_true]
        all_goals rfl
      | false =>
        simp only [cond_false]
        cases h8 : (decide (a0 > a1)) with
        | true =>
          simp only [cond_true]
          all_goals rfl
        | false =>
          simp only [cond_false]
          all_goals rfl
def R64 : Prop := ∀ (a0 : (List Int)) (a1 : (List Int)), (decide (List.length a0 ≤ 1000)) = true → I64.run ⟨[.dat (.slice tI) a0, .dat (.slice tI) a1], []⟩ = some ⟨[.dat tI (cmpGo a0 a1)], []⟩
theorem sd64 (hE : EnvOk Tryd.prog En92) (h : R64) : EnvOk Tryd.prog En64 := env_add hE (gen_sound I64 hE mo Tryd.func64 rfl rfl (fun x hx => h x.1 x.2.1 hx))
def R36 : Prop := ∀ (a0 : Prgm) (a1 : Int), (decide (List.length a0.1 ≤ 5)) = true → I36.run ⟨[.dat tPrgm a0, .dat tI a1], []⟩ = some ⟨[.dat (.slice .str) ((fitF a0 a1).1), .dat tI ((fitF a0 a1).2)], []⟩
theorem sd36 (hE : EnvOk Tryd.prog En64) (h : R36) : EnvOk Tryd.prog En36 := env_add hE (gen_sound I36 hE mo Tryd.func36 rfl rfl (fun x hx => h x.1 x.2.1 hx))
def R76 : Prop := ∀ (a0 : Again) (a1 : Again), (true) = true → I76.run ⟨[.dat tAgain a0, .dat tAgain a1], []⟩ = some ⟨[.dat tI (t76_0 a0 a1)], []⟩
theorem sd76 (hE : EnvOk Tryd.prog En36) (h : R76) : EnvOk Tryd.prog En76 := env_add hE (gen_sound I76 hE mo Tryd.func76 rfl rfl (fun x hx => h x.1 x.2.1 hx))
theorem r76 : R76 := by
  intro a0 a1 _
  exact f76_run a0 a1
def R112 : Prop := ∀ (a : Int) (b : Int) (a0 : (List Again)), (decide (List.length a0 ≤ 12) && a == 0 && b == (List.length a0 : Int)) = true → I112.run ⟨[.slc 0, .dat tI a, .dat tI b, .clos 76 []], [(0, .arr tAgain a0)]⟩ = some ⟨[], [(0, .arr tAgain (sortG (fun u v => decide (t76_0 u v < 0)) a0))]⟩
theorem sd112 (hE : EnvOk Tryd.prog En76) (h : R112) : EnvOk Tryd.prog En112 := env_add hE (gen_sound I112 hE mo Tryd.func112 rfl rfl (fun x hx => h x.1 x.2.1 x.2.2.1 hx))
def R98 : Prop := ∀ (n : Int) (a0 : (List Again)), (decide (List.length a0 ≤ 12) && n == (List.length a0 : Int)) = true → I98.run ⟨[.slc 0, .dat tI n, .clos 76 []], [(0, .arr tAgain a0)]⟩ = some ⟨[], [(0, .arr tAgain (sortG (fun u v => decide (t76_0 u v < 0)) a0))]⟩
theorem sd98 (hE : EnvOk Tryd.prog En112) (h : R98) : EnvOk Tryd.prog En98 := env_add hE (gen_sound I98 hE mo Tryd.func98 rfl rfl (fun x hx => h x.1 x.2.1 hx))
def R75 : Prop := ∀ (a0 : (List Again)), (decide (List.length a0 ≤ 12)) = true → I75.run ⟨[.slc 0, .clos 76 []], [(0, .arr tAgain a0)]⟩ = some ⟨[], [(0, .arr tAgain (sortG (fun u v => decide (t76_0 u v < 0)) a0))]⟩
theorem sd75 (hE : EnvOk Tryd.prog En98) (h : R75) : EnvOk Tryd.prog En75 := env_add hE (gen_sound I75 hE mo Tryd.func75 rfl rfl (fun x hx => h x.1 hx))
def R37 : Prop := ∀ (a0 : Prgm) (a1 : Int), (decide (List.length a0.1 ≤ 5)) = true → I37.run ⟨[.dat tPrgm a0, .dat tI a1], []⟩ = some ⟨[.dat (.slice .str) ((encF a0 a1).1), .dat tI ((encF a0 a1).2)], []⟩
theorem sd37 (hE : EnvOk Tryd.prog En75) (h : R37) : EnvOk Tryd.prog En37 := env_add hE (gen_sound I37 hE mo Tryd.func37 rfl rfl (fun x hx => h x.1 x.2.1 hx))
def R48 : Prop := ∀ (a0 : Prgm) (a1 : Int), (decide (0 ≤ a1) && decide (a1 + 1 < (List.length a0.1 : Int)) && decide (List.length a0.1 ≤ 1000)) = true → I48.run ⟨[.dat tPrgm a0, .dat tI a1], []⟩ = some ⟨[.dat tI (behindF a0 a1)], []⟩
theorem sd48 (hE : EnvOk Tryd.prog En37) (h : R48) : EnvOk Tryd.prog En48 := env_add hE (gen_sound I48 hE mo Tryd.func48 rfl rfl (fun x hx => h x.1 x.2.1 hx))
def R15 : Prop := ∀ (a0 : Prgm) (a1 : Int), (decide (List.length a0.1 ≤ 1000)) = true → I15.run ⟨[.dat tPrgm a0, .dat tI a1], []⟩ = some ⟨[.slc 0], [(0, .arr tTimed (timGo a0 0 a1 a0.1))]⟩
theorem sd15 (hE : EnvOk Tryd.prog En48) (h : R15) : EnvOk Tryd.prog En15 := env_add hE (gen_sound I15 hE mo Tryd.func15 rfl rfl (fun x hx => h x.1 x.2.1 hx))
def R13 : Prop := ∀ (a0 : Prgm), (decide (List.length a0.1 ≤ 1000)) = true → I13.run ⟨[.dat tPrgm a0], []⟩ = some ⟨[.dat tI (longR a0)], []⟩
theorem sd13 (hE : EnvOk Tryd.prog En15) (h : R13) : EnvOk Tryd.prog En13 := env_add hE (gen_sound I13 hE mo Tryd.func13 rfl rfl (fun x hx => h x.1 hx))
def R38 : Prop := ∀ (a0 : Prgm) (a1 : Int), (decide (List.length a0.1 ≤ 5)) = true → I38.run ⟨[.dat tPrgm a0, .dat tI a1], []⟩ = some ⟨[.dat (.slice .str) (fitR a0 a1)], []⟩
theorem sd38 (hE : EnvOk Tryd.prog En13) (h : R38) : EnvOk Tryd.prog En38 := env_add hE (gen_sound I38 hE mo Tryd.func38 rfl rfl (fun x hx => h x.1 x.2.1 hx))
def R77 : Prop := ∀ (a0 : Item) (lk : Bytes) (lp : Bytes) (ll : Int) (lps : (List Bytes)) (its : (List Item)) (c1 : Int) (c2 : Int) (c3 : Int) (c4 : Int), (true) = true → I77.run ⟨[.dat tItem a0, .ptr 0 0, .ptr 1 0], [(0, .box [.dat .str lk, .dat .str lp, .dat tI ll, .dat (.slice .str) lps]), (1, .box [.dat (.slice tItem) its, .dat tI c1, .dat tI c2, .dat tI c3, .dat tI c4])]⟩ = some ⟨[.dat tI (t77_0 a0 lk lp ll lps its c1 c2 c3 c4)], [(0, .box [.dat .str lk, .dat .str lp, .dat tI ll, .dat (.slice .str) lps]), (1, .box [.dat (.slice tItem) its, .dat tI c1, .dat tI c2, .dat tI c3, .dat tI c4])]⟩
theorem sd77 (hE : EnvOk Tryd.prog En38) (h : R77) : EnvOk Tryd.prog En77 := env_add hE (gen_sound I77 hE mo Tryd.func77 rfl rfl (fun x hx => h x.1 x.2.1 x.2.2.1 x.2.2.2.1 x.2.2.2.2.1 x.2.2.2.2.2.1 x.2.2.2.2.2.2.1 x.2.2.2.2.2.2.2.1 x.2.2.2.2.2.2.2.2.1 x.2.2.2.2.2.2.2.2.2.1 hx))
theorem r77 : R77 := by
  intro a0 lk lp ll lps its c1 c2 c3 c4 _
  rw [f77_run a0 lk lp ll lps its c1 c2 c3 c4]
  unfold t77_0 t77
  cases h2 : (!(a0.2.1 == lp)) with
  | true =>
    simp only [cond_true]
    all_goals rfl
  | false =>
    simp only [cond_false]
    all_goals rfl
def R79 : Prop := ∀ (a0 : Item) (lf : Int) (lk : Bytes) (lp : Bytes) (ll : Int) (lps : (List Bytes)) (its : (List Item)) (c1 : Int) (c2 : Int) (c3 : Int) (c4 : Int), (true) = true → I79.run ⟨[.dat tItem a0, .ptr 0 0, .ptr 1 0], [(0, .box [.clos 77 [.ptr 2 0, .ptr 3 0]]), (1, .box [.dat tI lf]), (2, .box [.dat .str lk, .dat .str lp, .dat tI ll, .dat (.slice .str) lps]), (3, .box [.dat (.slice tItem) its, .dat tI c1, .dat tI c2, .dat tI c3, .dat tI c4])]⟩ = some ⟨[.dat .bool (t79_0 a0 lf lk lp ll lps its c1 c2 c3 c4)], [(0, .box [.clos 77 [.ptr 2 0, .ptr 3 0]]), (1, .box [.dat tI lf]), (2, .box [.dat .str lk, .dat .str lp, .dat tI ll, .dat (.slice .str) lps]), (3, .box [.dat (.slice tItem) its, .dat tI c1, .dat tI c2, .dat tI c3, .dat tI c4])]⟩
theorem sd79 (hE : EnvOk Tryd.prog En77) (h : R79) : EnvOk Tryd.prog En79 := env_add hE (gen_sound I79 hE mo Tryd.func79 rfl rfl (fun x hx => h x.1 x.2.1 x.2.2.1 x.2.2.2.1 x.2.2.2.2.1 x.2.2.2.2.2.1 x.2.2.2.2.2.2.1 x.2.2.2.2.2.2.2.1 x.2.2.2.2.2.2.2.2.1 x.2.2.2.2.2.2.2.2.2.1 x.2.2.2.2.2.2.2.2.2.2.1 hx))
theorem r79 : R79 := by
  intro a0 lf lk lp ll lps its c1 c2 c3 c4 _
  exact f79_run a0 lf lk lp ll lps its c1 c2 c3 c4
def R88b : Prop := ∀ (a0 : (List Item)) (lf : Int) (lk : Bytes) (lp : Bytes) (ll : Int) (lps : (List Bytes)) (its : (List Item)) (c1 : Int) (c2 : Int) (c3 : Int) (c4 : Int), (decide (List.length a0 ≤ 1000)) = true → I88b.run ⟨[.slc 0, .clos 79 [.ptr 1 0, .ptr 2 0]], [(0, .arr tItem a0), (1, .box [.clos 77 [.ptr 3 0, .ptr 4 0]]), (2, .box [.dat tI lf]), (3, .box [.dat .str lk, .dat .str lp, .dat tI ll, .dat (.slice .str) lps]), (4, .box [.dat (.slice tItem) its, .dat tI c1, .dat tI c2, .dat tI c3, .dat tI c4])]⟩ = some ⟨[.dat tI (idxBy (fun o => t79_0 o lf lk lp ll lps its c1 c2 c3 c4) a0 0)], [(0, .arr tItem (a0)), (1, .box [.clos 77 [.ptr 3 0, .ptr 4 0]]), (2, .box [.dat tI (lf)]), (3, .box [.dat .str (lk), .dat .str (lp), .dat tI (ll), .dat (.slice .str) (lps)]), (4, .box [.dat (.slice tItem) (its), .dat tI (c1), .dat tI (c2), .dat tI (c3), .dat tI (c4)])]⟩
theorem sd88b (hE : EnvOk Tryd.prog En79) (h : R88b) : EnvOk Tryd.prog En88b := env_or hE rfl (gen_sound I88b hE mo Tryd.func88 rfl rfl (fun x hx => h x.1 x.2.1 x.2.2.1 x.2.2.2.1 x.2.2.2.2.1 x.2.2.2.2.2.1 x.2.2.2.2.2.2.1 x.2.2.2.2.2.2.2.1 x.2.2.2.2.2.2.2.2.1 x.2.2.2.2.2.2.2.2.2.1 x.2.2.2.2.2.2.2.2.2.2.1 hx))
def R78 : Prop := ∀ (a0 : (List Item)) (lf : Int) (lk : Bytes) (lp : Bytes) (ll : Int) (lps : (List Bytes)) (its : (List Item)) (c1 : Int) (c2 : Int) (c3 : Int) (c4 : Int), (decide (List.length a0 ≤ 1000)) = true → I78.run ⟨[.slc 0, .clos 79 [.ptr 1 0, .ptr 2 0]], [(0, .arr tItem a0), (1, .box [.clos 77 [.ptr 3 0, .ptr 4 0]]), (2, .box [.dat tI lf]), (3, .box [.dat .str lk, .dat .str lp, .dat tI ll, .dat (.slice .str) lps]), (4, .box [.dat (.slice tItem) its, .dat tI c1, .dat tI c2, .dat tI c3, .dat tI c4])]⟩ = some ⟨[.slc 10], [(0, .dead), (1, .box [.clos 77 [.ptr 3 0, .ptr 4 0]]), (2, .box [.dat tI (lf)]), (3, .box [.dat .str (lk), .dat .str (lp), .dat tI (ll), .dat (.slice .str) (lps)]), (4, .box [.dat (.slice tItem) (its), .dat tI (c1), .dat tI (c2), .dat tI (c3), .dat tI (c4)]), (10, .arr tItem (List.filter (fun o => !t79_0 o lf lk lp ll lps its c1 c2 c3 c4) a0))]⟩
theorem sd78 (hE : EnvOk Tryd.prog En88b) (h : R78) : EnvOk Tryd.prog En78 := env_add hE (gen_sound I78 hE mo Tryd.func78 rfl rfl (fun x hx => h x.1 x.2.1 x.2.2.1 x.2.2.2.1 x.2.2.2.2.1 x.2.2.2.2.2.1 x.2.2.2.2.2.2.1 x.2.2.2.2.2.2.2.1 x.2.2.2.2.2.2.2.2.1 x.2.2.2.2.2.2.2.2.2.1 x.2.2.2.2.2.2.2.2.2.2.1 hx))
def R82 : Prop := ∀ (a0 : Int), (true) = true → I82.run ⟨[.dat tI a0], []⟩ = some ⟨[.dat tI (t82_0 a0)], []⟩
theorem sd82 (hE : EnvOk Tryd.prog En78) (h : R82) : EnvOk Tryd.prog En82 := env_add hE (gen_sound I82 hE mo Tryd.func82 rfl rfl (fun x hx => h x.1 hx))
theorem r82 : R82 := by
  intro a0 _
  rw [f82_run a0]
  unfold t82_0 t82
  cases h2 : (decide (a0 < (0 : Int))) with
  | true =>
    simp only [cond_true]
    all_goals rfl
  | false =>
    simp only [cond_false]
    cases h4 : (decide (a0 > (0 : Int))) with
    | true =>
      simp only [cond_true]
      all_goals rfl
    | false =>
      simp only [cond_false]
      all_goals rfl
def R81 : Prop := ∀ (a0 : Item) (a1 : Item) (lk : Bytes) (lp : Bytes) (ll : Int) (lps : (List Bytes)) (its : (List Item)) (c1 : Int) (c2 : Int) (c3 : Int) (c4 : Int), (true) = true → I81.run ⟨[.dat tItem a0, .dat tItem a1, .ptr 0 0], [(0, .box [.clos 77 [.ptr 1 0, .ptr 2 0]]), (1, .box [.dat .str lk, .dat .str lp, .dat tI ll, .dat (.slice .str) lps]), (2, .box [.dat (.slice tItem) its, .dat tI c1, .dat tI c2, .dat tI c3, .dat tI c4])]⟩ = some ⟨[.dat tI (t81_0 a0 a1 lk lp ll lps its c1 c2 c3 c4)], [(0, .box [.clos 77 [.ptr 1 0, .ptr 2 0]]), (1, .box [.dat .str lk, .dat .str lp, .dat tI ll, .dat (.slice .str) lps]), (2, .box [.dat (.slice tItem) its, .dat tI c1, .dat tI c2, .dat tI c3, .dat tI c4])]⟩
theorem sd81 (hE : EnvOk Tryd.prog En82) (h : R81) : EnvOk Tryd.prog En81 := env_add hE (gen_sound I81 hE mo Tryd.func81 rfl rfl (fun x hx => h x.1 x.2.1 x.2.2.1 x.2.2.2.1 x.2.2.2.2.1 x.2.2.2.2.2.1 x.2.2.2.2.2.2.1 x.2.2.2.2.2.2.2.1 x.2.2.2.2.2.2.2.2.1 x.2.2.2.2.2.2.2.2.2.1 x.2.2.2.2.2.2.2.2.2.2.1 hx))
theorem r81 : R81 := by
  intro a0 a1 lk lp ll lps its c1 c2 c3 c4 _
  exact f81_run a0 a1 lk lp ll lps its c1 c2 c3 c4
def R114 : Prop := ∀ (a : Int) (b : Int) (a0 : (List Item)) (lk : Bytes) (lp : Bytes) (ll : Int) (lps : (List Bytes)) (its : (List Item)) (c1 : Int) (c2 : Int) (c3 : Int) (c4 : Int), (decide (List.length a0 ≤ 12) && a == 0 && b == (List.length a0 : Int)) = true → I114.run ⟨[.slc 0, .dat tI a, .dat tI b, .clos 81 [.ptr 1 0]], [(0, .arr tItem a0), (1, .box [.clos 77 [.ptr 2 0, .ptr 3 0]]), (2, .box [.dat .str lk, .dat .str lp, .dat tI ll, .dat (.slice .str) lps]), (3, .box [.dat (.slice tItem) its, .dat tI c1, .dat tI c2, .dat tI c3, .dat tI c4])]⟩ = some ⟨[], [(0, .arr tItem (sortG (fun u v => decide (t81_0 u v lk lp ll lps its c1 c2 c3 c4 < 0)) a0)), (1, .box [.clos 77 [.ptr 2 0, .ptr 3 0]]), (2, .box [.dat .str (lk), .dat .str (lp), .dat tI (ll), .dat (.slice .str) (lps)]), (3, .box [.dat (.slice tItem) (its), .dat tI (c1), .dat tI (c2), .dat tI (c3), .dat tI (c4)])]⟩
theorem sd114 (hE : EnvOk Tryd.prog En81) (h : R114) : EnvOk Tryd.prog En114 := env_add hE (gen_sound I114 hE mo Tryd.func114 rfl rfl (fun x hx => h x.1 x.2.1 x.2.2.1 x.2.2.2.1 x.2.2.2.2.1 x.2.2.2.2.2.1 x.2.2.2.2.2.2.1 x.2.2.2.2.2.2.2.1 x.2.2.2.2.2.2.2.2.1 x.2.2.2.2.2.2.2.2.2.1 x.2.2.2.2.2.2.2.2.2.2.1 x.2.2.2.2.2.2.2.2.2.2.2.1 hx))
def R99 : Prop := ∀ (n : Int) (a0 : (List Item)) (lk : Bytes) (lp : Bytes) (ll : Int) (lps : (List Bytes)) (its : (List Item)) (c1 : Int) (c2 : Int) (c3 : Int) (c4 : Int), (decide (List.length a0 ≤ 12) && n == (List.length a0 : Int)) = true → I99.run ⟨[.slc 0, .dat tI n, .clos 81 [.ptr 1 0]], [(0, .arr tItem a0), (1, .box [.clos 77 [.ptr 2 0, .ptr 3 0]]), (2, .box [.dat .str lk, .dat .str lp, .dat tI ll, .dat (.slice .str) lps]), (3, .box [.dat (.slice tItem) its, .dat tI c1, .dat tI c2, .dat tI c3, .dat tI c4])]⟩ = some ⟨[], [(0, .arr tItem (sortG (fun u v => decide (t81_0 u v lk lp ll lps its c1 c2 c3 c4 < 0)) a0)), (1, .box [.clos 77 [.ptr 2 0, .ptr 3 0]]), (2, .box [.dat .str (lk), .dat .str (lp), .dat tI (ll), .dat (.slice .str) (lps)]), (3, .box [.dat (.slice tItem) (its), .dat tI (c1), .dat tI (c2), .dat tI (c3), .dat tI (c4)])]⟩
theorem sd99 (hE : EnvOk Tryd.prog En114) (h : R99) : EnvOk Tryd.prog En99 := env_add hE (gen_sound I99 hE mo Tryd.func99 rfl rfl (fun x hx => h x.1 x.2.1 x.2.2.1 x.2.2.2.1 x.2.2.2.2.1 x.2.2.2.2.2.1 x.2.2.2.2.2.2.1 x.2.2.2.2.2.2.2.1 x.2.2.2.2.2.2.2.2.1 x.2.2.2.2.2.2.2.2.2.1 x.2.2.2.2.2.2.2.2.2.2.1 hx))
def R80 : Prop := ∀ (a0 : (List Item)) (lk : Bytes) (lp : Bytes) (ll : Int) (lps : (List Bytes)) (its : (List Item)) (c1 : Int) (c2 : Int) (c3 : Int) (c4 : Int), (decide (List.length a0 ≤ 12)) = true → I80.run ⟨[.slc 0, .clos 81 [.ptr 1 0]], [(0, .arr tItem a0), (1, .box [.clos 77 [.ptr 2 0, .ptr 3 0]]), (2, .box [.dat .str lk, .dat .str lp, .dat tI ll, .dat (.slice .str) lps]), (3, .box [.dat (.slice tItem) its, .dat tI c1, .dat tI c2, .dat tI c3, .dat tI c4])]⟩ = some ⟨[], [(0, .arr tItem (sortG (fun u v => decide (t81_0 u v lk lp ll lps its c1 c2 c3 c4 < 0)) a0)), (1, .box [.clos 77 [.ptr 2 0, .ptr 3 0]]), (2, .box [.dat .str (lk), .dat .str (lp), .dat tI (ll), .dat (.slice .str) (lps)]), (3, .box [.dat (.slice tItem) (its), .dat tI (c1), .dat tI (c2), .dat tI (c3), .dat tI (c4)])]⟩
theorem sd80 (hE : EnvOk Tryd.prog En99) (h : R80) : EnvOk Tryd.prog En80 := env_add hE (gen_sound I80 hE mo Tryd.func80 rfl rfl (fun x hx => h x.1 x.2.1 x.2.2.1 x.2.2.2.1 x.2.2.2.2.1 x.2.2.2.2.2.1 x.2.2.2.2.2.2.1 x.2.2.2.2.2.2.2.1 x.2.2.2.2.2.2.2.2.1 x.2.2.2.2.2.2.2.2.2.1 hx))
def R57 : Prop := ∀ (a0 : (List Item)), (decide (List.length a0 ≤ 1000)) = true → I57.run ⟨[.dat (.slice tItem) a0], []⟩ = some ⟨[.slc 0], [(0, .arr tItem (a0))]⟩
theorem sd57 (hE : EnvOk Tryd.prog En80) (h : R57) : EnvOk Tryd.prog En57 := env_add hE (gen_sound I57 hE mo Tryd.func57 rfl rfl (fun x hx => h x.1 hx))
def R67 : Prop := ∀ (a0 : (List Item)), (decide (List.length a0 ≤ 1000)) = true → I67.run ⟨[.dat (.slice tItem) a0], []⟩ = some ⟨[.dat (.slice .str) (List.map (fun o => o.1) a0)], []⟩
theorem sd67 (hE : EnvOk Tryd.prog En57) (h : R67) : EnvOk Tryd.prog En67 := env_add hE (gen_sound I67 hE mo Tryd.func67 rfl rfl (fun x hx => h x.1 hx))
def R39 : Prop := ∀ (a0 : Prgm) (a1 : Int), (decide (List.length a0.1 ≤ 5) && decide (0 < List.length a0.1)) = true → I39.run ⟨[.dat tPrgm a0, .dat tI a1], []⟩ = some ⟨[.dat (.slice .str) (encR a0 a1)], []⟩
theorem sd39 (hE : EnvOk Tryd.prog En67) (h : R39) : EnvOk Tryd.prog En39 := env_add hE (gen_sound I39 hE mo Tryd.func39 rfl rfl (fun x hx => h x.1 x.2.1 hx))
def R5 : Prop := ∀ (a0 : (List Int)), (true) = true → I5.run ⟨[.dat (.slice tI) a0], []⟩ = some ⟨[.dat .bool true], []⟩
theorem law (hE : EnvOk Tryd.prog En39) (h : R5) : Sound Tryd.prog En39.gl 5 S5 := And.left (b := Enters Tryd.prog 5) (gen_sound I5 hE mo Tryd.func5 rfl rfl (fun x hx => h x.1 hx))
end Go.Ev.L

set_option linter.unusedVariables false
set_option linter.unusedSimpArgs false
namespace Go.Ev.L
open Go Go.Ev Go.Proofs
/-! ### small things (rw [condT (dT (by first | omega | (simp only [List.length_append, List.length_cons, List.length_nil, List.length_set, List.length_take, List.length_drop, List.length_map]; omega) | (simp; omega)))], repeat (rw [condT (dT (by first | omega | (simp only [List.length_append, List.length_cons, List.length_nil, List.length_set, List.length_take, List.length_drop, List.length_map]; omega) | (simp; omega)))]), st: words that tmpl2.py writes out) -/
theorem c12 {α : Type} {a b : α} : cond ((12 : Int) == 0) a b = b := rfl
theorem range1 (i m : Nat) : List.range' i (m + 1) = i :: List.range' (i + 1) m := by rw [List.range'_succ]

theorem r83 : R83 := by
  intro a0 a1 _
  rw [f83_run]
  unfold below
  by_cases h1 : a1 < 1
  · simp [h1]
  · have h0 : (a1 == 0) = false := by simp; omega
    by_cases h2 : a0.tmod a1 < 0 <;> simp [h1, h0, h2]

theorem atOk_iff {k a : Int} : atOk k a = true ↔ 0 ≤ a ∧ a + k ≤ 1099511627776 := by simp [atOk]

theorem nextAt_eq {k a : Int} (h : atOk k a = true) (hk : 0 ≤ k) : nextAt a = a + 1 := by
  rw [atOk_iff] at h
  unfold nextAt
  exact wrap_in (by omega) (by omega)

theorem r41 : R41 := by
  intro a0 L at_ h
  rw [f41_run]
  have h1 := atOk_iff.1 h
  have e1 : wrap .i64 (at_ + 1) = at_ + 1 := wrap_in (by omega) (by omega)
  have e2 : wrap .i64 (at_ + 1 - 1) = at_ := by rw [wrap_in (by omega) (by omega)]; omega
  unfold next rawNext nextAt
  by_cases h0 : L = []
  · subst h0; simp
  · have hl : 0 < L.length := List.length_pos_iff.2 h0
    have hne : ((L.length : Int) == 0) = false := by simp; omega
    have ht0 : decide ((0 : Int) ≤ Int.tmod at_ L.length) = true := by simp; exact Int.tmod_nonneg _ h1.1
    have ht1 : decide (Int.tmod at_ L.length < L.length) = true := by simp; exact Int.tmod_lt_of_pos _ (by omega)
    simp only [hne, cond_false, e1, e2, ht0, ht1, cond_true]

theorem below_range {x n : Int} (h1 : 1 ≤ n) (h2 : n ≤ 4611686018427387904) : 0 ≤ below x n ∧ below x n < n := by
  unfold below
  have hlt : decide (n < 1) = false := by simp; omega
  have h3 := Int.tmod_lt_of_pos x (show 0 < n by omega)
  have h4 : -n < x.tmod n := Int.lt_tmod_of_pos x (by omega)
  rw [hlt, cond_false]
  by_cases h : x.tmod n < 0
  · rw [condT (by simpa using h), wrap_in (by omega) (by omega)]; omega
  · rw [condF (by simpa using h)]; omega

theorem next_range (L : List Int) (at_ : Int) {n : Int} (h1 : 1 ≤ n) (h2 : n ≤ 4611686018427387904) : 0 ≤ next L at_ n ∧ next L at_ n < n := below_range h1 h2

theorem r29 : R29 := by
  intro a0 L at_ h
  rw [f29_run, h]; rfl

theorem r35 : R35 := by
  intro a0 L at_ h
  simp only [Bool.and_eq_true, decide_eq_true_eq] at h
  obtain ⟨⟨h1, h2⟩, h3⟩ := h
  have hr := next_range L at_ (n := (a0.length : Int)) (by omega) (by omega)
  rw [f35_run, h1]
  have q1 : decide ((0 : Int) ≤ next L at_ a0.length) = true := by simpa using hr.1
  have q2 : decide (next L at_ a0.length < a0.length) = true := by simpa using hr.2
  rw [q1, q2]; rfl

theorem r31 : R31 := by
  intro a0 a1 L at_ h
  rw [f31_run, h]
  unfold rangeS rangeAt
  by_cases hc : a1 < a0 <;> simp [hc]

theorem r42 : R42 := by
  intro a0 a1 L at_ h
  have h1 := atOk_iff.1 h
  rw [f42_run]
  have q1 : atOk 1 at_ = true := atOk_iff.2 (by omega)
  have e1 := nextAt_eq q1 (by omega)
  have q2 : atOk 1 (nextAt at_) = true := atOk_iff.2 (by omega)
  rw [q1, q2]
  unfold oddS
  cases next L at_ 12 == 0 <;> rfl

theorem r52 : R52 := by
  intro a0 a1 a2 _
  rw [f52_run]
  unfold outside
  cases decide (a0 < a1) <;> rfl

theorem r46 : R46 := by
  intro a0 a1 a2 _
  rw [f46_run]
  unfold inR
  cases decide (a1 ≤ a0) <;> rfl

theorem atOk_t {k a : Int} (h1 : 0 ≤ a) (h2 : a + k ≤ 1099511627776) : atOk k a = true := atOk_iff.2 ⟨h1, h2⟩
theorem nextAt_s {a : Int} (h1 : 0 ≤ a) (h2 : a + 1 ≤ 1099511627776) : nextAt a = a + 1 := wrap_in (by omega) (by omega)
theorem rangeAt_s {a lo hi : Int} (h0 : lo ≤ hi) (h1 : 0 ≤ a) (h2 : a + 1 ≤ 1099511627776) : rangeAt a lo hi = a + 1 := by
  unfold rangeAt
  rw [condF (by simp; omega)]; exact nextAt_s h1 h2
theorem rangeS_in (L : List Int) (a : Int) {lo hi : Int} (h : lo ≤ hi) (h1 : -1000000000 ≤ lo) (h2 : hi ≤ 1000000000) : lo ≤ rangeS L a lo hi ∧ rangeS L a lo hi ≤ hi := by
  unfold rangeS
  rw [condF (by simp; omega), wrap_in (x := hi - lo) (by omega) (by omega), wrap_in (x := hi - lo + 1) (by omega) (by omega)]
  have := next_range L a (n := hi - lo + 1) (by omega) (by omega)
  rw [wrap_in (by omega) (by omega)]; omega
theorem oddAt (L : List Int) {a lo hi : Int} (h0 : lo ≤ hi) (h1 : 0 ≤ a) (h2 : a + 2 ≤ 1099511627776) : (oddS L a lo hi).1 = a + 2 := by
  unfold oddS
  cases next L a 12 == 0
  · simp only [cond_false]; rw [nextAt_s h1 (by omega), rangeAt_s h0 (by omega) (by omega)]; omega
  · simp only [cond_true]; rw [nextAt_s h1 (by omega), nextAt_s (by omega) (by omega)]; omega
theorem len_t {n m : Nat} (h : n ≤ m) : decide (n ≤ m) = true := dT h
theorem atOk_and {k a : Int} {p q : Bool} (h1 : 0 ≤ a) (h2 : a + k ≤ 1099511627776) (hp : p = true) (hq : q = true) : (atOk k a && p && q) = true := by
  rw [atOk_t h1 h2, hp, hq]; rfl
theorem bself (n : Int) : (n == n) = true := by simp

theorem r30 : R30 := by
  intro a0 L at_ h
  simp only [Bool.and_eq_true, decide_eq_true_eq] at h
  obtain ⟨⟨h1, h2⟩, h3⟩ := h
  have hr := next_range L at_ (n := (a0.length : Int)) (by omega) (by omega)
  rw [f30_run, h1]
  have q1 : decide ((0 : Int) ≤ next L at_ a0.length) = true := by simpa using hr.1
  have q2 : decide (next L at_ a0.length < a0.length) = true := by simpa using hr.2
  rw [q1, q2]; rfl

theorem r43 : R43 := by
  intro a0 h
  simp only [decide_eq_true_eq] at h
  rw [f43_run, condT (dT (by simp; omega))]
  cases a0 with
  | nil => simp [both_self]
  | cons x l => simp

theorem idxBy_any {α : Type} (p : α → Bool) : ∀ (l : List α) (i : Nat), decide (idxBy p l i ≥ 0) = l.any p
  | [], i => by simp [idxBy]
  | x :: l, i => by
    have ih := idxBy_any p l (i + 1)
    simp only [idxBy, List.any_cons]
    by_cases hx : p x = true
    · simp [hx]
    · have hx : p x = false := by simpa using hx
      simp only [hx, cond_false, Bool.false_or]; exact ih

theorem go88a (xs : List Item) (hb : xs.length ≤ 1000) (k pl : Bytes) (lg : Int) (ps : List Bytes) : ∀ (m i : Nat), i + m = xs.length →
    f88ah0 xs xs.length i k pl lg ps = some ⟨[.dat tI (idxBy (fun o => t51_0 o k pl lg ps) (xs.drop i) i)], [(0, .box [.dat .str k, .dat .str pl, .dat tI lg, .dat (.slice .str) ps])]⟩ := by
  intro m
  induction m with
  | zero => intro i hi; rw [f88ah0_eq, dlt_not (by omega), dnil (by omega)]; rfl
  | succ m ih =>
    intro i hi
    have hlt : i < xs.length := by omega
    rw [f88ah0_eq, dlt hlt, dle0, getN _ _ _ hlt, wsucc (by omega), ih (i + 1) (by omega), dcons hlt]
    simp only [cond_true, idxBy]
    cases t51_0 xs[i] k pl lg ps <;> rfl

theorem r88a : R88a := by
  intro a0 k pl lg ps h
  simp only [decide_eq_true_eq] at h
  rw [f88a_run]
  exact go88a a0 h k pl lg ps a0.length 0 (by omega)

theorem go88 (xs : List Item) (hb : xs.length ≤ 1000) (k : Bytes) : ∀ (m i : Nat), i + m = xs.length →
    f88h0 xs xs.length i k = some ⟨[.dat tI (idxBy (fun o => t90_0 o k) (xs.drop i) i)], [(0, .box [.dat .str k])]⟩ := by
  intro m
  induction m with
  | zero => intro i hi; rw [f88h0_eq, dlt_not (by omega), dnil (by omega)]; rfl
  | succ m ih =>
    intro i hi
    have hlt : i < xs.length := by omega
    rw [f88h0_eq, dlt hlt, dle0, getN _ _ _ hlt, wsucc (by omega), ih (i + 1) (by omega), dcons hlt]
    simp only [cond_true, idxBy]
    cases t90_0 xs[i] k <;> rfl

theorem r88 : R88 := by
  intro a0 k h
  simp only [decide_eq_true_eq] at h
  rw [f88_run]
  exact go88 a0 h k a0.length 0 (by omega)

theorem r49 : R49 := by
  intro a0 _
  rw [f49_run]
  show (cond (!(a0 == [])) (cond (decide ((a0.length : Int) ≤ 40)) (cond (decide ((0 : Int) ≤ 0)) (cond (decide ((0 : Int) < (a0.length : Int))) (cond (decide (indexB smallsB ((a0.getD 0 0).toNat : Int) ≥ 0)) (cond (trimOk a0 keyB) (some (α := Fr) ⟨[.dat .bool (trimB a0 keyB == [])], []⟩) none) (some (α := Fr) ⟨[.dat .bool false], []⟩)) none) none) (some (α := Fr) ⟨[.dat .bool false], []⟩)) (some (α := Fr) ⟨[.dat .bool false], []⟩)) = some (α := Fr) ⟨[.dat .bool (!(a0 == []) && decide ((a0.length : Int) ≤ 40) && decide (indexB smallsB ((a0.getD 0 0).toNat : Int) ≥ 0) && (trimB a0 keyB == []))], []⟩
  generalize hz : decide (indexB smallsB ((a0.getD 0 0).toNat : Int) ≥ 0) = z
  cases h1 : !(a0 == []) with
  | false => rfl
  | true =>
    cases h2 : decide ((a0.length : Int) ≤ 40) with
    | false => rfl
    | true =>
      have h1' : 0 < a0.length := by
        cases a0 with
        | nil => simp at h1
        | cons x l => simp
      have h2' : (a0.length : Int) ≤ 40 := by simpa using h2
      have q : trimOk a0 keyB = true := by
        unfold trimOk
        rw [dT (by omega), show decide (keyB.length ≤ 1000) = true from by decide, show (keyB.all fun b => decide (b.toNat < 128)) = true from by decide]; rfl
      have q0 : decide ((0 : Int) < (a0.length : Int)) = true := dT (by omega)
      simp only [cond_true, q0, Bool.true_and, q, show decide ((0 : Int) ≤ 0) = true from rfl]
      cases z <;> rfl

theorem go53 (xs : List Bytes) (hb : xs.length ≤ 1000) : ∀ (m i : Nat) (prev : Option Bytes), i + m = xs.length → (i = 0 ∧ prev = none ∨ ∃ h : 0 < i ∧ i - 1 < xs.length, prev = some (xs[i - 1]'h.2)) →
    f53h0 xs xs xs.length i = some ⟨[.dat tI (risingGo isKey prev (xs.drop i))], []⟩ := by
  intro m
  induction m with
  | zero => intro i prev hi hp; rw [f53h0_eq, dlt_not (by omega), dnil (by omega)]; rfl
  | succ m ih =>
    intro i prev hi hp
    have hlt : i < xs.length := by omega
    have ih' := ih (i + 1) (some xs[i]) (by omega) (.inr ⟨⟨by omega, by omega⟩, rfl⟩)
    rw [f53h0_eq, dlt hlt, dle0, getN _ _ _ hlt, wsucc (by omega), ih', dcons hlt]
    simp only [cond_true, risingGo]
    cases isKey xs[i] with
    | false => rfl
    | true =>
      simp only [Bool.not_true, cond_false]
      rcases hp with ⟨rfl, rfl⟩ | ⟨⟨h1, h2⟩, rfl⟩
      · rfl
      · have e : wrap .i64 ((i : Int) - 1) = ((i - 1 : Nat) : Int) := by rw [wrap_in (by omega) (by omega)]; omega
        rw [e, dle0, dlt h2, getN _ _ _ h2, condT (dT (by omega))]
        simp only [cond_true, notAfter]
        cases bLess xs[i] xs[i - 1] || xs[i] == xs[i - 1] <;> rfl

theorem r53 : R53 := by
  intro a0 _
  rw [f53_run]
  unfold partsF
  cases h1 : ((a0.length : Int) == 0) with
  | true => rfl
  | false =>
    cases h2 : decide ((a0.length : Int) > 12) with
    | true => rfl
    | false =>
      simp only [cond_false]
      have : ¬ (a0.length : Int) > 12 := by simpa using h2
      exact go53 a0 (by omega) a0.length 0 none (by omega) (.inl ⟨rfl, rfl⟩)

theorem go56 (xs : List Bytes) (hb : xs.length ≤ 1000) : ∀ (m i : Nat) (prev : Option Bytes), i + m = xs.length → (i = 0 ∧ prev = none ∨ ∃ h : 0 < i ∧ i - 1 < xs.length, prev = some (xs[i - 1]'h.2)) →
    f56h0 xs xs xs.length i = some ⟨[.dat tI (risingGo keyR prev (xs.drop i))], []⟩ := by
  intro m
  induction m with
  | zero => intro i prev hi hp; rw [f56h0_eq, dlt_not (by omega), dnil (by omega)]; rfl
  | succ m ih =>
    intro i prev hi hp
    have hlt : i < xs.length := by omega
    have ih' := ih (i + 1) (some xs[i]) (by omega) (.inr ⟨⟨by omega, by omega⟩, rfl⟩)
    rw [f56h0_eq, dlt hlt, dle0, getN _ _ _ hlt, wsucc (by omega), ih', dcons hlt]
    simp only [cond_true, risingGo]
    cases keyR xs[i] with
    | false => rfl
    | true =>
      simp only [Bool.not_true, cond_false]
      rcases hp with ⟨rfl, rfl⟩ | ⟨⟨h1, h2⟩, rfl⟩
      · rfl
      · have e : wrap .i64 ((i : Int) - 1) = ((i - 1 : Nat) : Int) := by rw [wrap_in (by omega) (by omega)]; omega
        rw [e, dle0, dlt h2, getN _ _ _ h2, condT (dT (by omega))]
        simp only [cond_true, notAfter]
        cases bLess xs[i] xs[i - 1] || xs[i] == xs[i - 1] <;> rfl

theorem r56 : R56 := by
  intro a0 h
  simp only [decide_eq_true_eq] at h
  rw [f56_run]
  exact go56 a0 h a0.length 0 none (by omega) (.inl ⟨rfl, rfl⟩)

theorem go89 (xs cs : Bytes) (hb : xs.length ≤ 1000000) : ∀ (m i : Nat), i + m = xs.length → f89h0 xs cs xs.length i = some ⟨[.dat .bool (onlyB (xs.drop i) cs)], []⟩ := by
  intro m
  induction m with
  | zero => intro i hi; rw [f89h0_eq, dlt_not (by omega), dnil (by omega)]; rfl
  | succ m ih =>
    intro i hi
    have hlt : i < xs.length := by omega
    rw [f89h0_eq, dlt hlt, dle0, getN _ _ _ hlt, wsucc (by omega), ih (i + 1) (by omega), dcons hlt]
    simp only [cond_true, onlyB, List.all_cons]
    cases decide (indexB cs ((xs[i].toNat : Nat) : Int) < 0) <;> rfl

theorem r89 : R89 := by
  intro a0 a1 h
  simp only [decide_eq_true_eq] at h
  rw [f89_run]
  exact go89 a0 a1 h a0.length 0 (by omega)

theorem r54 : R54 := by
  intro a0 _
  rw [f54_run]
  unfold keyR
  cases h1 : inR (a0.length : Int) 1 40 with
  | false => rfl
  | true =>
    have h2 : 1 ≤ a0.length ∧ a0.length ≤ 40 := by
      simp only [inR, Bool.and_eq_true, decide_eq_true_eq] at h1; omega
    have e : List.drop (Int.toNat 0) (List.take (Int.toNat 1) a0) = a0.take 1 := rfl
    rw [e, dT (p := (1 : Int) ≤ (a0.length : Int)) (by omega), dT (p := (a0.take 1).length ≤ 1000000) (by rw [List.length_take]; omega), dT (p := a0.length ≤ 1000000) (by omega)]
    simp only [cond_true, Bool.true_and, smallsB, keyB]
    cases onlyB (a0.take 1) _ <;> rfl

end Go.Ev.L

set_option linter.unusedVariables false
set_option linter.unusedSimpArgs false
namespace Go.Ev.L
open Go Go.Ev Go.Proofs
theorem ok55 (l : List Item) (k : Bytes) (h : l.length ≤ 1000) : t55_ok l k = true ∧ t55_0 l k = idxBy (fun o => t90_0 o k) l 0 := by
  unfold t55_ok t55_0 t55
  rw [dT h]; exact ⟨rfl, rfl⟩

theorem okC (l : List Item) (k pl : Bytes) (lg : Int) (ps : List Bytes) (h : l.length ≤ 1000) : t50_ok l k pl lg ps = true ∧
    t50_0 l k pl lg ps = (l.any fun o => o.1 == k) := by
  unfold t50_ok t50_0 t50
  rw [dT h]
  refine ⟨rfl, ?_⟩
  exact idxBy_any _ l 0

theorem go16 (xs : List Item) (hb : xs.length ≤ 60) : ∀ (m i : Nat), i + m = xs.length →
    f16h0 xs xs xs.length i = some ⟨[.dat tI (itemsGo isKey (xs.take i) (xs.drop i))], []⟩ := by
  intro m
  induction m with
  | zero => intro i hi; rw [f16h0_eq, dlt_not (by omega), dnil (xs := xs) (i := i) (by omega)]; rfl
  | succ m ih =>
    intro i hi
    have hlt : i < xs.length := by omega
    have ih' := ih (i + 1) (by omega)
    have hl : (xs.take i).length ≤ 1000 := by rw [List.length_take]; omega
    rw [List.take_succ_eq_append_getElem hlt] at ih'
    rw [f16h0_eq, dlt hlt, dle0, getN _ _ _ hlt, wsucc (by omega), ih', dcons hlt]
    have e : List.drop (Int.toNat 0) (List.take (Int.toNat (i : Int)) xs) = xs.take i := rfl
    obtain ⟨q1, q2⟩ := okC (xs.take i) xs[i].1 xs[i].2.1 xs[i].2.2.1 xs[i].2.2.2 hl
    rw [e, q1, q2, dT (p := (i : Int) ≤ (xs.length : Int)) (by omega), show decide ((0 : Int) ≤ 0) = true from rfl]
    simp only [cond_true, itemsGo]
    cases isKey xs[i].1 with
    | false => rfl
    | true =>
      cases isKey xs[i].2.1 with
      | false => rfl
      | true =>
        simp only [Bool.not_true, cond_false, Bool.or_false]
        cases (xs.take i).any fun o => o.1 == xs[i].1 with
        | true => rfl
        | false =>
          cases outside xs[i].2.2.1 1 86400000 with
          | true => rfl
          | false =>
            simp only [cond_false]
            cases partsF isKey xs[i].2.2.2 != 0 <;> rfl

theorem r16 : R16 := by
  intro a0 _
  rw [f16_run]
  unfold checkItems
  cases h2 : decide ((a0.length : Int) > 60) with
  | true => rfl
  | false =>
    have : ¬ (a0.length : Int) > 60 := by simpa using h2
    exact go16 a0 (by omega) a0.length 0 (by omega)

theorem outside_in (n lo hi : Int) : outside n lo hi = !inR n lo hi := by
  unfold outside inR
  have h1 : decide (n < lo) = !decide (lo ≤ n) := by
    by_cases h : lo ≤ n
    · have : ¬ n < lo := by omega
      simp [h, this]
    · have : n < lo := by omega
      simp [h, this]
  have h2 : decide (n > hi) = !decide (n ≤ hi) := by
    by_cases h : n ≤ hi
    · have : ¬ n > hi := by omega
      simp [h, this]
    · have : n > hi := by omega
      simp [h, this]
  rw [h1, h2, Bool.not_and]

theorem go17 (xs : List Item) (hb : xs.length ≤ 60) : ∀ (m i : Nat), i + m = xs.length →
    f17h0 xs xs xs.length i = some ⟨[.dat tI (itemsGo keyR (xs.take i) (xs.drop i))], []⟩ := by
  intro m
  induction m with
  | zero => intro i hi; rw [f17h0_eq, dlt_not (by omega), dnil (xs := xs) (i := i) (by omega)]; rfl
  | succ m ih =>
    intro i hi
    have hlt : i < xs.length := by omega
    have ih' := ih (i + 1) (by omega)
    have hl : (xs.take i).length ≤ 1000 := by rw [List.length_take]; omega
    rw [List.take_succ_eq_append_getElem hlt] at ih'
    rw [f17h0_eq, dlt hlt, dle0, getN _ _ _ hlt, wsucc (by omega), ih', dcons hlt]
    have e : List.drop (Int.toNat 0) (List.take (Int.toNat (i : Int)) xs) = xs.take i := rfl
    obtain ⟨q1, q2⟩ := ok55 (xs.take i) xs[i].1 hl
    have q3 : decide (idxBy (fun o => t90_0 o xs[i].1) (xs.take i) 0 ≥ 0) = ((xs.take i).any fun o => o.1 == xs[i].1) := idxBy_any _ _ 0
    rw [e, q1, q2, q3, dT (p := (i : Int) ≤ (xs.length : Int)) (by omega), show decide ((0 : Int) ≤ 0) = true from rfl]
    simp only [cond_true, itemsGo, outside_in, partsF]
    generalize (xs.take i).any (fun o => o.1 == xs[i].1) = z
    cases keyR xs[i].1 with
    | false => rfl
    | true =>
      cases keyR xs[i].2.1 with
      | false => rfl
      | true =>
        simp only [Bool.not_true, cond_false, Bool.or_false]
        cases z with
        | true => rfl
        | false =>
          cases inR xs[i].2.2.1 1 86400000 with
          | false => rfl
          | true =>
            simp only [cond_false, Bool.not_true]
            cases h1 : ((xs[i].2.2.2.length : Int) == 0) with
            | true => rfl
            | false =>
              cases h2 : decide ((xs[i].2.2.2.length : Int) > 12) with
              | true => rfl
              | false =>
                have : ¬ (xs[i].2.2.2.length : Int) > 12 := by simpa using h2
                rw [dT (p := xs[i].2.2.2.length ≤ 1000) (by omega)]
                simp only [cond_true, cond_false]
                cases risingGo keyR none xs[i].2.2.2 != 0 <;> rfl

theorem r17 : R17 := by
  intro a0 _
  rw [f17_run]
  unfold checkItems
  cases h2 : decide ((a0.length : Int) > 60) with
  | true => rfl
  | false =>
    have : ¬ (a0.length : Int) > 60 := by simpa using h2
    exact go17 a0 (by omega) a0.length 0 (by omega)

theorem r18 : R18 := by
  intro a0 _
  rw [f18_run]
  unfold checkProg
  cases checkItems isKey a0.1 != 0 with
  | true => rfl
  | false =>
    simp only [cond_false]
    have e : (if (-1 : Int) < (wrap .i64 ((a0.1.length : Int) - 2)) then (wrap .i64 ((a0.1.length : Int) - 2)) else (-1 : Int)) = mx (-1) (wrap .i64 ((a0.1.length : Int) - 2)) := rfl
    rw [e]
    cases outside a0.2.1 0 86400000 with
    | true => rfl
    | false =>
      cases outside a0.2.2.1 0 86400000 with
      | true => rfl
      | false =>
        cases outside a0.2.2.2.1 0 86400000 with
        | true => rfl
        | false => cases outside a0.2.2.2.2 (-1) (mx (-1) (wrap .i64 ((a0.1.length : Int) - 2))) <;> rfl

theorem r11 : R11 := by
  intro a0 _
  rw [f11_run]
  unfold checkProg
  cases checkItems keyR a0.1 != 0 with
  | true => rfl
  | false =>
    simp only [cond_false, outside_in]
    have e : (if (-1 : Int) < (wrap .i64 ((a0.1.length : Int) - 2)) then (wrap .i64 ((a0.1.length : Int) - 2)) else (-1 : Int)) = mx (-1) (wrap .i64 ((a0.1.length : Int) - 2)) := rfl
    rw [e]
    cases inR a0.2.1 0 86400000 with
    | false => rfl
    | true =>
      cases inR a0.2.2.1 0 86400000 with
      | false => rfl
      | true =>
        cases inR a0.2.2.2.1 0 86400000 with
        | false => rfl
        | true => cases inR a0.2.2.2.2 (-1) (mx (-1) (wrap .i64 ((a0.1.length : Int) - 2))) <;> rfl

theorem ix_iff {p : Prgm} {i : Int} : (decide (0 ≤ i) && decide (i + 1 < (List.length p.1 : Int)) && decide (List.length p.1 ≤ 1000)) = true ↔ 0 ≤ i ∧ i + 1 < (p.1.length : Int) ∧ p.1.length ≤ 1000 := by
  simp only [Bool.and_eq_true, decide_eq_true_eq, and_assoc]

theorem r85 : R85 := by
  intro a0 a1 h
  obtain ⟨h1, h2, h3⟩ := ix_iff.1 h
  rw [f85_run, wrap_in (x := a1 + 1) (by omega) (by omega), dT (p := (0 : Int) ≤ a1) h1, dT (p := a1 < (a0.1.length : Int)) (by omega), dT (p := (0 : Int) ≤ a1 + 1) (by omega), dT (p := a1 + 1 < (a0.1.length : Int)) h2]
  simp only [cond_true]
  unfold behindF gapAt t74_0 t74
  cases a1 == a0.2.2.2.2 <;> rfl

theorem r48 : R48 := by
  intro a0 a1 h
  obtain ⟨h1, h2, h3⟩ := ix_iff.1 h
  rw [f48_run, wrap_in (x := a1 + 1) (by omega) (by omega), dT (p := (0 : Int) ≤ a1) h1, dT (p := a1 < (a0.1.length : Int)) (by omega), dT (p := (0 : Int) ≤ a1 + 1) (by omega), dT (p := a1 + 1 < (a0.1.length : Int)) h2]
  simp only [cond_true]
  unfold behindF gapAt
  generalize (!(List.getD a0.1 (Int.toNat a1) (Tc.dflt tItem)).2.1 == (List.getD a0.1 (Int.toNat (a1 + 1)) (Tc.dflt tItem)).2.1) = z
  cases a1 == a0.2.2.2.2 <;> cases z <;> rfl

theorem behind_eq (p : Prgm) (i : Nat) (h : i + 1 < p.1.length) : behindF p i = gapAt p i p.1[i] p.1[i + 1] := by
  have h' : i < p.1.length := by omega
  unfold behindF
  have e : ((i : Int) + 1) = ((i + 1 : Nat) : Int) := by omega
  rw [e, getN _ _ _ h', getN _ _ _ h]

theorem go45 (p : Prgm) (hb : p.1.length ≤ 1000) : ∀ (m i : Nat) (a : Int) (out : List Int), i + m = p.1.length → out.length ≤ i →
    f45h0 a p.1 p.1.length i p.1 p.2.1 p.2.2.1 p.2.2.2.1 p.2.2.2.2 out = some ⟨[.slc 0, .dat tI (begGo p i a (p.1.drop i)).2], [(0, .arr tI (out ++ (begGo p i a (p.1.drop i)).1))]⟩ := by
  intro m
  induction m with
  | zero => intro i a out hi ho; rw [f45h0_eq, dlt_not (by omega), dnil (by omega)]; simp [begGo]
  | succ m ih =>
    intro i a out hi ho
    have hlt : i < p.1.length := by omega
    rw [f45h0_eq, dlt hlt, dle0, getN _ _ _ hlt, wsucc (by omega), dcons hlt, dT (p := (out.length + [a].length) * 8 ≤ 140737488355328) (by simp; omega)]
    simp only [cond_true]
    by_cases hn : i + 1 < p.1.length
    · rw [dlt hn, ih (i + 1) _ _ (by omega) (by simp; omega), dcons hn]
      have q : (true && decide ((i : Int) + 1 < (List.length p.1 : Int)) && decide (List.length p.1 ≤ 1000)) = true := by rw [dT (p := (i : Int) + 1 < (List.length p.1 : Int)) (by omega), dT hb]; rfl
      rw [cond_true, condT q]
      have e : (p.1, (p.2.1, (p.2.2.1, (p.2.2.2.1, p.2.2.2.2)))) = p := rfl
      rw [e, behind_eq p i hn]
      simp only [begGo, List.append_assoc, List.singleton_append]
      rfl
    · rw [dlt_not (i := i + 1) (n := p.1.length) (by omega), cond_false, ih (i + 1) _ _ (by omega) (by simp; omega), dnil (by omega)]
      simp [begGo]

theorem r45 : R45 := by
  intro a0 h
  simp only [decide_eq_true_eq] at h
  rw [f45_run]
  have := go45 a0 h a0.1.length 0 0 [] (by omega) (by simp)
  simpa using this

theorem go15 (p : Prgm) (hb : p.1.length ≤ 1000) : ∀ (m i : Nat) (a : Int) (out : List Timed), i + m = p.1.length → out.length ≤ i →
    f15h0 a p.1 p.1.length i p.1 p.2.1 p.2.2.1 p.2.2.2.1 p.2.2.2.2 out = some ⟨[.slc 0], [(0, .arr tTimed (out ++ timGo p i a (p.1.drop i)))]⟩ := by
  intro m
  induction m with
  | zero => intro i a out hi ho; rw [f15h0_eq, dlt_not (by omega), dnil (by omega)]; simp [timGo]
  | succ m ih =>
    intro i a out hi ho
    have hlt : i < p.1.length := by omega
    rw [f15h0_eq, dlt hlt, dle0, getN _ _ _ hlt, wsucc (by omega), dcons hlt, condT (dT (by simp; omega))]
    simp only [cond_true]
    by_cases hn : i + 1 < p.1.length
    · rw [dlt hn, ih (i + 1) _ _ (by omega) (by simp; omega), dcons hn]
      have q : (true && decide ((i : Int) + 1 < (List.length p.1 : Int)) && decide (List.length p.1 ≤ 1000)) = true := by rw [dT (p := (i : Int) + 1 < (List.length p.1 : Int)) (by omega), dT hb]; rfl
      rw [cond_true, condT q]
      have e : (p.1, (p.2.1, (p.2.2.1, (p.2.2.2.1, p.2.2.2.2)))) = p := rfl
      rw [e, behind_eq p i hn]
      simp only [timGo, List.append_assoc, List.singleton_append]
      rfl
    · rw [dlt_not (i := i + 1) (n := p.1.length) (by omega), cond_false, ih (i + 1) _ _ (by omega) (by simp; omega), dnil (by omega)]
      simp [timGo]

theorem r15 : R15 := by
  intro a0 a1 h
  simp only [decide_eq_true_eq] at h
  rw [f15_run]
  have := go15 a0 h a0.1.length 0 a1 [] (by omega) (by simp)
  simpa using this

end Go.Ev.L

set_option linter.unusedVariables false
set_option linter.unusedSimpArgs false
namespace Go.Ev.L
open Go Go.Ev Go.Proofs
theorem checkItems_len {key : Bytes → Bool} {l : List Item} (h : checkItems key l = 0) : l.length ≤ 60 := by
  unfold checkItems at h
  cases h2 : decide ((l.length : Int) > 60) with
  | true => rw [h2] at h; simp at h
  | false =>
    have : ¬ (l.length : Int) > 60 := by simpa using h2
    omega

theorem checkProg_items {key : Bytes → Bool} {p : Prgm} (h : checkProg key p = 0) : checkItems key p.1 = 0 := by
  unfold checkProg at h
  cases h2 : checkItems key p.1 != 0 with
  | true => rw [h2, cond_true] at h; exact h
  | false => simpa using h2

theorem eta_p (p : Prgm) : (p.1, (p.2.1, (p.2.2.1, (p.2.2.2.1, p.2.2.2.2)))) = p := rfl

theorem begGo_len (p : Prgm) : ∀ (l : List Item) (i a : Int), (begGo p i a l).1.length = l.length
  | [], _, _ => rfl
  | [x], _, _ => rfl
  | x :: y :: l, i, a => by
    have := begGo_len p (y :: l) (i + 1) (wrap .i64 (wrap .i64 (a + x.2.2.1) + gapAt p i x y))
    simp only [begGo, List.length_cons] at this ⊢
    omega

theorem timGo_len (p : Prgm) : ∀ (l : List Item) (i a : Int), (timGo p i a l).length = l.length
  | [], _, _ => rfl
  | [x], _, _ => rfl
  | x :: y :: l, i, a => by
    have := timGo_len p (y :: l) (i + 1) (wrap .i64 (wrap .i64 (a + x.2.2.1) + gapAt p i x y))
    simp only [timGo, List.length_cons] at this ⊢
    omega

theorem fromF_prog {p : Prgm} {f : Int} (h : fromF p f = 0) : checkProg isKey p = 0 := by
  unfold fromF at h
  cases h2 : checkProg isKey p != 0 with
  | true => rw [h2, cond_true] at h; exact h
  | false => simpa using h2

theorem r9 : R9 := by
  intro a0 _
  rw [f9_run, eta_p]
  unfold longP
  cases h : checkProg isKey a0 != 0 with
  | true => rfl
  | false =>
    have h0 : checkProg isKey a0 = 0 := by simpa using h
    have := checkItems_len (checkProg_items h0)
    rw [dT (p := a0.1.length ≤ 1000) (by omega)]
    rfl

theorem beq_comm' (x y : Bytes) : (x == y) = (y == x) := by
  by_cases h : x = y
  · subst h; rfl
  · have h' : ¬ y = x := fun e => h e.symm
    rw [beq_eq_false_iff_ne.2 h, beq_eq_false_iff_ne.2 h']

theorem r13 : R13 := by
  intro a0 h
  simp only [decide_eq_true_eq] at h
  rw [f13_run, eta_p]
  unfold longR
  have hl := timGo_len a0 a0.1 0 0
  rw [dT h, cond_true]
  have hq : (timGo a0 0 0 a0.1).length ≤ 1000 := by omega
  clear hl
  revert hq
  generalize timGo a0 0 0 a0.1 = t
  intro hq
  cases t with
  | nil => rfl
  | cons x l =>
    have h1 : ((List.length (x :: l) : Int) == 0) = false := by simp; omega
    have h0 : 1 ≤ List.length (x :: l) := by simp
    have e : wrap .i64 ((List.length (x :: l) : Int) - 1) = ((List.length (x :: l) - 1 : Nat) : Int) := by rw [wrap_in (by omega) (by omega)]; omega
    have hlt : List.length (x :: l) - 1 < List.length (x :: l) := by simp
    rw [h1, e, dle0, dlt hlt, getN _ _ _ hlt, dT (p := Int.toNat ((List.length (x :: l) - 1 : Nat) : Int) < List.length (x :: l)) (by simp), List.getLast?_eq_getElem?, List.getElem?_eq_getElem hlt]
    simp only [cond_true, cond_false]

theorem beq_timed (x y : Timed) : Tc.beq tTimed x y = (x == y) := rfl


end Go.Ev.L

set_option linter.unusedVariables false
namespace Go.Ev
open Go Go.RowKit

theorem pure_sound {P : Program} {G : (Nat → Prop) → Array Obj → Prop} {f : FuncId} {md : List Bool} {ts : List Tc} {ok : Tup ts → Bool} {pat : Fr} {out : Tup ts → FV}
    (hp : ∀ x, fillF pat (undats ts x) = ⟨undats ts x, []⟩) (hr : ∀ x, resFV [out x] = out x)
    (h : ∀ x, ok x = true → ∀ (w : World) (V : Vw) (vals : List Value), V.h = w.heap → G V.S w.heap → RelVs V (undats ts x) vals →
      Calls P f vals.toArray w fun e w' => ∃ u, e = .returned u ∧ RowKit.Below w.heap.size w w' ∧ ∀ V', RelV V' (out x) u) :
    Sound P G f (genS md false pat ts ok (fun x => ⟨[out x], []⟩)) := by
  refine gen_of (P := P) (G := G) (f := f) (fun pk o => ∀ (vals : List Value) (w : World) (loc : Nat → Loc) (S : Nat → Prop), Core pk.reg loc S w.heap → G S w.heap →
    RelVs (view pk.reg loc S w.heap) pk.slots vals →
    Calls P f vals.toArray w fun e w' => ∃ u, e = .returned u ∧ Sm w w' ∧ ∃ loc' S', Ctx (entOf pk loc S w.heap) o.reg loc' S' w'.heap ∧
      (view pk.reg loc S w.heap).le (view o.reg loc' S' w'.heap) ∧ RelV (view o.reg loc' S' w'.heap) (resFV o.slots) u) ?_
  intro x hx vals w loc S hc hg hv
  rw [hp] at hc hv ⊢
  refine (h x hx w (view (Fr.reg ⟨undats ts x, []⟩) loc S w.heap) vals rfl hg hv).mono ?_
  rintro e w' ⟨u, rfl, hb, hu⟩
  refine ⟨u, rfl, ⟨hb.os, hb.output⟩, loc, S, ⟨⟨fun _ => trivial, fun _ _ h => h.elim, fun _ h => h.elim, fun b hb' => Nat.lt_of_lt_of_le (hc.bS b hb') hb.size⟩,
    ⟨hb.size, fun b hb' _ => hb.block b hb', fun _ h => h, fun _ h => .inl h, fun _ h => h.elim, fun _ _ ⟨_, h, _⟩ => h.elim, hc.bS⟩⟩,
    ⟨fun _ _ h => h.elim, fun _ _ _ h => h.elim, fun _ _ _ _ h => h.elim, fun _ _ h => h.elim, fun b hb' => ⟨hb', hb.block b (hc.bS b hb')⟩⟩, ?_⟩
  rw [hr]; exact hu _

theorem enters_plain {P : Program} {f : FuncId} {fn : Func} (hf : P.funcs[f]? = some fn) {b : _} (hb : fn.body = some b) (hn : (fn.name == "runtime.NumGoroutine") = false) : Enters P f :=
  enters_of hf hb hn
end Go.Ev

/-
  DERIVED: THE SHELF's CONTRACTS AT THIS DUMP, IN PLAIN WORDS (tools/lay-plain.mjs out of 'GleeKs.lean', which tools/lay-shelf.mjs wrote): THE SAME DECLARATIONS UNDER THE SAME NAMES: 'import', 'namespace', 'open', 'def', 'theorem' AND NOTHING ELSE: no command of the shelf's: FOR A HAND-IN. Each laying: the table of numbers ('.._ren') and one theorem, a field a fact of the dump's own or the kernel's comparison; each contract: ONE APPLICATION.
-/
namespace Go.Proofs
open Go.Shelf
def Tryd.lays137_ren : Go.Shelf.Ren := ⟨fun | 137 => 86 | 217 => 100 | 266 => 116 | n => n, fun | 9 => 9 | 5 => 5 | 3 => 3 | n => n, fun | n => n⟩
theorem Tryd.lays137 : Go.Proofs.Lays.n137 Tryd.prog Tryd.lays137_ren := {
  mixed := by kernel_rfl
  f137 := Tryd.func86.trans (congrArg some (by kernel_rfl))
  f217 := Tryd.func100.trans (congrArg some (by kernel_rfl))
  f266 := Tryd.func116.trans (congrArg some (by kernel_rfl))
  t3 := Tryd.underlying3
  a3 := Tryd.isAgg3
  z3 := Tryd.sizeOf3
  v3 := Tryd.zeroValue3
  t5 := Tryd.underlying5
  a5 := Tryd.isAgg5
  z5 := Tryd.sizeOf5
  v5 := Tryd.zeroValue5
  t9 := Tryd.underlying9
  a9 := Tryd.isAgg9
  z9 := Tryd.sizeOf9
  v9 := Tryd.zeroValue9 }
def Tryd.lays160_ren : Go.Shelf.Ren := ⟨fun | 160 => 87 | 232 => 102 | 231 => 101 | 227 => 103 | 234 => 105 | 233 => 104 | 236 => 107 | 235 => 106 | 228 => 117 | 271 => 120 | 151 => 119 | 197 => 118 | 120 => 125 | 152 => 124 | 260 => 123 | 137 => 86 | 119 => 128 | 224 => 129 | 225 => 130 | 217 => 100 | 266 => 116 | n => n, fun | 9 => 9 | 4 => 4 | 3 => 3 | 5 => 5 | 117 => 125 | 116 => 124 | 0 => 0 | 124 => 128 | 21 => 21 | 105 => 135 | 46 => 138 | 119 => 140 | 139 => 143 | 138 => 142 | n => n, fun | 3 => 1 | 4 => 2 | n => n⟩
theorem Tryd.lays160 : Go.Proofs.Lays.n160 Tryd.prog Tryd.lays160_ren := {
  mixed := by kernel_rfl
  f119 := Tryd.func128.trans (congrArg some (by kernel_rfl))
  f120 := Tryd.func125.trans (congrArg some (by kernel_rfl))
  f137 := Tryd.func86.trans (congrArg some (by kernel_rfl))
  f151 := Tryd.func119.trans (congrArg some (by kernel_rfl))
  f152 := Tryd.func124.trans (congrArg some (by kernel_rfl))
  f160 := Tryd.func87.trans (congrArg some (by kernel_rfl))
  f197 := Tryd.func118.trans (congrArg some (by kernel_rfl))
  f217 := Tryd.func100.trans (congrArg some (by kernel_rfl))
  f224 := Tryd.func129.trans (congrArg some (by kernel_rfl))
  f225 := Tryd.func130.trans (congrArg some (by kernel_rfl))
  f227 := Tryd.func103.trans (congrArg some (by kernel_rfl))
  f228 := Tryd.func117.trans (congrArg some (by kernel_rfl))
  f231 := Tryd.func101.trans (congrArg some (by kernel_rfl))
  f232 := Tryd.func102.trans (congrArg some (by kernel_rfl))
  f233 := Tryd.func104.trans (congrArg some (by kernel_rfl))
  f234 := Tryd.func105.trans (congrArg some (by kernel_rfl))
  f235 := Tryd.func106.trans (congrArg some (by kernel_rfl))
  f236 := Tryd.func107.trans (congrArg some (by kernel_rfl))
  f260 := Tryd.func123.trans (congrArg some (by kernel_rfl))
  f266 := Tryd.func116.trans (congrArg some (by kernel_rfl))
  f271 := Tryd.func120.trans (congrArg some (by kernel_rfl))
  t0 := Tryd.underlying0
  a0 := Tryd.isAgg0
  z0 := Tryd.sizeOf0
  v0 := Tryd.zeroValue0
  t3 := Tryd.underlying3
  a3 := Tryd.isAgg3
  z3 := Tryd.sizeOf3
  v3 := Tryd.zeroValue3
  t4 := Tryd.underlying4
  a4 := Tryd.isAgg4
  z4 := Tryd.sizeOf4
  v4 := Tryd.zeroValue4
  t5 := Tryd.underlying5
  a5 := Tryd.isAgg5
  z5 := Tryd.sizeOf5
  v5 := Tryd.zeroValue5
  t9 := Tryd.underlying9
  a9 := Tryd.isAgg9
  z9 := Tryd.sizeOf9
  v9 := Tryd.zeroValue9
  t21 := Tryd.underlying21
  a21 := Tryd.isAgg21
  z21 := Tryd.sizeOf21
  v21 := Tryd.zeroValue21
  t46 := Tryd.underlying138
  a46 := Tryd.isAgg138
  z46 := Tryd.sizeOf138
  v46 := Tryd.zeroValue138
  t105 := Tryd.underlying135
  a105 := Tryd.isAgg135
  z105 := Tryd.sizeOf135
  v105 := Tryd.zeroValue135
  t116 := Tryd.underlying124
  a116 := Tryd.isAgg124
  z116 := Tryd.sizeOf124
  t117 := Tryd.underlying125
  a117 := Tryd.isAgg125
  z117 := Tryd.sizeOf125
  v117 := Tryd.zeroValue125
  t119 := Tryd.underlying140
  a119 := Tryd.isAgg140
  z119 := Tryd.sizeOf140
  t124 := Tryd.underlying128
  a124 := Tryd.isAgg128
  z124 := Tryd.sizeOf128
  v124 := Tryd.zeroValue128
  t138 := Tryd.underlying142
  a138 := Tryd.isAgg142
  z138 := Tryd.sizeOf142
  v138 := Tryd.zeroValue142
  t139 := Tryd.underlying143
  a139 := Tryd.isAgg143
  z139 := Tryd.sizeOf143
  v139 := Tryd.zeroValue143
  g3 := by kernel_rfl
  g4 := by kernel_rfl }
end Go.Proofs

set_option linter.unusedVariables false
set_option linter.unusedSimpArgs false
namespace Go.Ev.L
open Go Go.Ev Go.Proofs
theorem r86 : R86 := by
  refine ⟨pure_sound (P := Tryd.prog) (G := En0.gl) (ts := [.str, .int .u8]) (out := fun x => .dat tI (indexB x.1 x.2.1)) (fun _ => rfl) (fun _ => rfl) ?_, enters_of Tryd.func86 rfl rfl⟩
  rintro ⟨s, c, _⟩ _ w V vals hV _ ⟨u1, us, rfl, h1, u2, us', rfl, h2, rfl⟩
  cases h1
  cases h2
  refine (Any.strings_IndexByte Tryd.lays137 ⟨List.toArray s⟩ c w).mono ?_
  rintro e w' ⟨rfl, rfl⟩
  exact ⟨_, rfl, RowKit.Below.refl _ _, fun _ => rfl⟩

theorem r87 : R87 := by
  refine ⟨pure_sound (P := Tryd.prog) (G := En0.gl) (ts := [.str, .str]) (out := fun x => .dat .str (trimB x.1 x.2.1)) (fun _ => rfl) (fun _ => rfl) ?_, enters_of Tryd.func87 rfl rfl⟩
  rintro ⟨s, c, _⟩ hok w V vals hV _ ⟨u1, us, rfl, h1, u2, us', rfl, h2, rfl⟩
  cases h1
  cases h2
  have hok' : (decide (List.length s ≤ 1000000) && decide (List.length c ≤ 1000) && c.all fun b => decide (b.toNat < 128)) = true := hok
  simp only [Bool.and_eq_true, decide_eq_true_eq] at hok'
  obtain ⟨⟨h1, h2⟩, h3⟩ := hok'
  refine (Any.strings_Trim_laid Tryd.lays160 (by kernel_rfl) ⟨List.toArray s⟩ ⟨List.toArray c⟩ w (by show (List.toArray s).size ≤ _; simp; omega) (by show (List.toArray c).size < _; simp; omega) (ascii_of_all h3)).mono ?_
  rintro e w' ⟨rfl, hb⟩
  exact ⟨_, rfl, hb, fun _ => rfl⟩

theorem indexByte_mem (b : UInt8) : ∀ (l : Bytes), decide (Lib.indexByte l b < 0) = !l.contains b
  | [] => rfl
  | x :: l => by
    have ih := indexByte_mem b l
    have hg := Lib.indexByte_ge l b
    unfold Lib.indexByte
    by_cases h : x = b
    · subst h; simp
    · have h1 : (x == b) = false := beq_eq_false_iff_ne.2 h
      have h2 : (b == x) = false := beq_eq_false_iff_ne.2 (fun e => h e.symm)
      rw [h1]
      simp only [List.contains_cons, h2, Bool.false_or, Bool.false_eq_true, if_false]
      rw [← ih]
      by_cases h3 : Lib.indexByte l b = -1
      · rw [h3]; rfl
      · have h4 : (Lib.indexByte l b == -1) = false := beq_eq_false_iff_ne.2 h3
        rw [h4]
        simp only [Bool.false_eq_true, if_false]
        rw [dF (by omega), dF (by omega)]

theorem toU (b : UInt8) : (Int.toNat ((b.toNat : Nat) : Int)).toUInt8 = b := by
  show (b.toNat).toUInt8 = b
  exact UInt8.ofNat_toNat

theorem only_all (s cs : Bytes) : onlyB s cs = s.all fun b => cs.contains b := by
  unfold onlyB
  congr 1
  funext b
  unfold indexB
  rw [toU, indexByte_mem, Bool.not_not]

theorem dw_nil {α : Type} (p : α → Bool) : ∀ (l : List α), l.dropWhile p = [] ↔ ∀ x ∈ l, p x = true
  | [] => by simp
  | x :: l => by
    rw [List.dropWhile_cons]
    cases h : p x with
    | true => simp [h, dw_nil p l]
    | false => simp [h]

theorem trim_nil (s cs : Bytes) : (trimB s cs == []) = s.all fun b => cs.contains b := by
  unfold trimB Lib.trimS Lib.trimLeftS Lib.trimRightS
  rw [Bool.eq_iff_iff, beq_iff_eq, dw_nil, List.all_eq_true]
  constructor
  · intro h
    -- a byte beyond the set would stay
    have h' : ∀ x ∈ s.reverse.dropWhile (fun b => cs.contains b), cs.contains x = true := fun x hx => h x (by simpa using hx)
    have h2 : s.reverse.dropWhile (fun b => cs.contains b) = [] := by
      cases hd : s.reverse.dropWhile (fun b => cs.contains b) with
      | nil => rfl
      | cons x l =>
        have := List.head?_dropWhile_not (fun b => cs.contains b) s.reverse
        rw [hd] at this h'
        simp only [List.head?_cons] at this
        have h3 := h' x (List.mem_cons_self ..)
        simp only [h3] at this
        simp at this
    rw [dw_nil] at h2
    exact fun x hx => h2 x (by simpa using hx)
  · intro h x hx
    have := (List.dropWhile_sublist (fun b => cs.contains b) (l := s.reverse)).subset (by simpa using hx)
    exact h x (by simpa using this)

theorem isKey_eq (s : Bytes) : isKey s = keyR s := by
  unfold isKey keyR
  rw [trim_nil, only_all, only_all]
  cases s with
  | nil => rfl
  | cons x l =>
    have e1 : (!((x :: l : Bytes) == [])) = true := rfl
    have e2 : inR ((x :: l : Bytes).length : Int) 1 40 = decide (((x :: l : Bytes).length : Int) ≤ 40) := by
      unfold inR
      rw [dT (p := (1 : Int) ≤ ((x :: l : Bytes).length : Int)) (by simp; omega), Bool.true_and]
    have e3 : ((x :: l : Bytes).getD 0 0) = x := rfl
    have e4 : (x :: l : Bytes).take 1 = [x] := rfl
    have e5 : decide (indexB smallsB ((x.toNat : Nat) : Int) ≥ 0) = smallsB.contains x := by
      unfold indexB
      rw [toU]
      have := indexByte_mem x smallsB
      by_cases h : Lib.indexByte smallsB x < 0
      · rw [dT h] at this
        rw [dF (by omega)]
        cases hc : smallsB.contains x <;> rw [hc] at this <;> first | rfl | cases this
      · rw [dF h] at this
        rw [dT (by omega)]
        cases hc : smallsB.contains x <;> rw [hc] at this <;> first | rfl | cases this
    rw [e1, e2, e3, e4, e5, Bool.true_and]
    simp only [List.all_cons, List.all_nil, Bool.and_true]

theorem isKey_fun : isKey = keyR := funext isKey_eq

theorem r20 : R20 := by
  intro _
  rw [f20_run]
  unfold longP
  rw [isKey_fun]
  rfl

end Go.Ev.L

set_option linter.unusedVariables false
set_option linter.unusedSimpArgs false
namespace Go.Ev.L
open Go Go.Ev Go.Proofs
def QRp (L : List Int) (a b : Int) (f : Fr) : Prop := ∃ (a' : Int) (items : List Item) (p q r s : Int),
  f = ⟨[.agg [.slc 2, .dat tI p, .dat tI q, .dat tI r, .dat tI s]], [(0, .box [.dat (.slice tI) L, .dat tI a']), (2, .arr tItem items)]⟩ ∧ a ≤ a' ∧ a' ≤ b ∧ items.length ≤ 5 ∧ ∀ x ∈ items, x.2.2.2.length ≤ 5

theorem rp2 (x0 : List Bytes) (x1 x2 : Int) (L : List Int) (z1 z2 z3 z4 p q r s : Int) (n g : Bytes) (lg : Int) (nl : List Bytes) (hn : nl.length ≤ 3) (items : List Item) (hi : items.length ≤ 4) : ∀ (m k : Nat) (a : Int) (parts : List Bytes),
    k + m = nl.length → 0 ≤ a → a + m ≤ 1099511627776 → parts.length ≤ k →
    ∃ (a' : Int) (it : Item), f40h2 x0 x1 x2 nl.length k L a z1 z2 z3 z4 p q r s n g lg nl items parts = f40h0 x0 x1 (wrap .i64 (x2 + 1)) L a' z1 z2 z3 z4 p q r s (items ++ [it]) ∧
      a ≤ a' ∧ a' ≤ a + m ∧ it.2.2.2.length ≤ 5 := by
  intro m
  induction m with
  | zero =>
    intro k a parts hk h0 ha hp
    rw [f40h2_eq, dlt_not (i := k) (n := nl.length) (by omega), cond_false]
    cases hz : ((parts.length : Int) == 0) with
    | true =>
      refine ⟨a, (n, (g, (lg, [[97, 108, 116, 111]]))), ?_, by omega, by omega, by simp⟩
      rw [cond_true]
      exact condT (dT (by simp; omega))
    | false =>
      refine ⟨a, (n, (g, (lg, parts))), ?_, by omega, by omega, by show parts.length ≤ 5; omega⟩
      rw [cond_false]
      exact condT (dT (by simp; omega))
  | succ m ih =>
    intro k a parts hk h0 ha hp
    have hlt : k < nl.length := by omega
    rw [f40h2_eq, dlt hlt, dle0, getN _ _ _ hlt, wsucc (by omega), dT (p := Int.toNat (k : Int) < nl.length) (by simpa using hlt), atOk_t h0 (by omega), nextAt_s h0 (by omega)]
    simp only [cond_true]
    cases next L a 2 == 0 with
    | true =>
      obtain ⟨a', it, e, h1, h2, h3⟩ := ih (k + 1) (a + 1) (parts ++ [nl[k]]) (by omega) (by omega) (by omega) (by simp; omega)
      refine ⟨a', it, ?_, by omega, by omega, h3⟩
      rw [cond_true, condT (dT (by simp; omega))]; exact e
    | false =>
      obtain ⟨a', it, e, h1, h2, h3⟩ := ih (k + 1) (a + 1) parts (by omega) (by omega) (by omega) (by omega)
      exact ⟨a', it, e, by omega, by omega, h3⟩

theorem QRp_mono {L : List Int} {a b c d : Int} (h1 : c ≤ a) (h2 : b ≤ d) {o : Option Fr} (h : Ends (QRp L a b) o) : Ends (QRp L c d) o := by
  refine ends_mono h ?_
  rintro f ⟨a', it, p, q, r, s, e, h3, h4, h5⟩
  exact ⟨a', it, p, q, r, s, e, by omega, by omega, h5⟩

theorem rp0 (xs : List Bytes) (hx : xs.length ≤ 5) (L : List Int) (z1 z2 z3 z4 p q r s : Int) : ∀ (m i : Nat) (a : Int) (items : List Item),
    i + m = xs.length → 0 ≤ a → a + 10 * m + 10 ≤ 1099511627776 → items.length ≤ i → (∀ x ∈ items, x.2.2.2.length ≤ 5) →
    Ends (QRp L a (a + 10 * m + 10)) (f40h0 xs xs.length i L a z1 z2 z3 z4 p q r s items) := by
  intro m
  induction m with
  | zero =>
    intro i a items hi h0 ha hl hp
    rw [f40h0_eq, dlt_not (i := i) (n := xs.length) (by omega), cond_false]
    have leaf : ∀ (a' s' : Int), a ≤ a' → a' ≤ a + 10 → Ends (QRp L a (a + 10 * (0 : Nat) + 10)) (some ⟨[.agg [.slc 2, .dat tI p, .dat tI q, .dat tI r, .dat tI s']], [(0, .box [.dat (.slice tI) L, .dat tI a']), (2, .arr tItem items)]⟩) :=
      fun a' s' h1 h2 => ends_some ⟨a', items, p, q, r, s', rfl, h1, by omega, by omega, hp⟩
    refine ends_cond (fun _ => ?_) (fun _ => leaf a s (by omega) (by omega))
    rw [atOk_t h0 (by omega), nextAt_s h0 (by omega), atOk_t (k := 1) (a := a + 1) (by omega) (by omega), nextAt_s (a := a + 1) (by omega) (by omega)]
    simp only [cond_true]
    exact ends_cond (fun _ => leaf _ _ (by omega) (by omega)) (fun _ => leaf _ _ (by omega) (by omega))
  | succ m ih =>
    intro i a items hi h0 ha hl hp
    have hlt : i < xs.length := by omega
    rw [f40h0_eq, dlt hlt, dle0, getN _ _ _ hlt, wsucc (by omega), atOk_t h0 (by omega), nextAt_s h0 (by omega), atOk_t (k := 1) (a := a + 1) (by omega) (by omega), nextAt_s (a := a + 1) (by omega) (by omega),
      atOk_t (k := 1) (a := a + 1 + 1) (by omega) (by omega), nextAt_s (a := a + 1 + 1) (by omega) (by omega)]
    simp only [cond_true]
    refine ends_cond (fun _ => ?_) (fun _ => ?_)
    · exact QRp_mono (by omega) (by omega) (ih (i + 1) (a + 1) items (by omega) (by omega) (by omega) (by omega) hp)
    · refine ends_if rfl (ends_if rfl ?_)
      obtain ⟨a', it, e, h1, h2, h3⟩ := rp2 xs xs.length i L z1 z2 z3 z4 p q r s xs[i] (some_ L (a + 1) [[114, 111, 119, 115], [114, 111, 119, 115], [99, 105, 114, 99, 108, 101]]) (pick L (a + 1 + 1) [(50 : Int), (100 : Int), (100 : Int), (200 : Int)])
        [[97, 108, 116, 111], [98, 97, 115, 115], [115, 111, 108, 105]] (by simp) items (by omega) 3 0 (a + 1 + 1 + 1) [] (by simp) (by omega) (by omega) (by simp)
      rw [wsucc (by omega)] at e
      have e' : f40h2 xs xs.length i ((List.length ([[97, 108, 116, 111], [98, 97, 115, 115], [115, 111, 108, 105]] : List Bytes) : Nat) : Int) (0 : Int) L (a + 1 + 1 + 1) z1 z2 z3 z4 p q r s xs[i] (some_ L (a + 1) [[114, 111, 119, 115], [114, 111, 119, 115], [99, 105, 114, 99, 108, 101]]) (pick L (a + 1 + 1) [(50 : Int), (100 : Int), (100 : Int), (200 : Int)])
        [[97, 108, 116, 111], [98, 97, 115, 115], [115, 111, 108, 105]] items [] = _ := e
      rw [e']
      refine QRp_mono (by omega) (by omega) (ih (i + 1) a' (items ++ [it]) (by omega) (by omega) (by omega) (by simp; omega) ?_)
      intro x hx
      rcases List.mem_append.1 hx with h | h
      · exact hp x h
      · rw [List.mem_singleton.1 h]; exact h3

theorem rp_ends (L : List Int) (at_ n : Int) (h : (atOk 1000 at_ && decide (0 ≤ n) && decide (n ≤ 5)) = true) :
    Ends (QRp L at_ (at_ + 100)) (I40.run ⟨[.ptr 0 0, .dat tI n], [(0, .box [.dat (.slice tI) L, .dat tI at_])]⟩) := by
  simp only [Bool.and_eq_true, decide_eq_true_eq] at h
  obtain ⟨⟨h1, h2⟩, h3⟩ := h
  have h1 := atOk_iff.1 h1
  rw [f40_run, atOk_t h1.1 (by omega), nextAt_s h1.1 (by omega), atOk_t (k := 1) (a := at_ + 1) (by omega) (by omega), nextAt_s (a := at_ + 1) (by omega) (by omega),
      atOk_t (k := 1) (a := at_ + 1 + 1) (by omega) (by omega), nextAt_s (a := at_ + 1 + 1) (by omega) (by omega)]
  refine ends_if rfl (ends_if rfl (ends_if rfl (ends_if rfl (ends_if (dT h2) (ends_if (dT h3) ?_)))))
  generalize hx : List.drop (Int.toNat 0) (List.take (Int.toNat n) ([[99], [97], [100], [98], [101]] : List Bytes)) = xs
  have hl : xs.length ≤ 5 := by
    rw [← hx, List.length_drop, List.length_take]
    show min _ 5 - _ ≤ 5
    omega
  exact QRp_mono (by omega) (by omega) (rp0 xs hl L 0 0 0 0 _ _ _ _ xs.length 0 (at_ + 1 + 1 + 1) [] (by omega) (by omega) (by omega) (by simp) (by simp))

theorem rightP_spec (L : List Int) (at_ n : Int) (h : (atOk 1000 at_ && decide (0 ≤ n) && decide (n ≤ 5)) = true) :
    (at_ ≤ (rightP L at_ n).1 ∧ (rightP L at_ n).1 ≤ at_ + 200 ∧ (rightP L at_ n).2.1.length ≤ 5 ∧ ∀ x ∈ (rightP L at_ n).2.1, x.2.2.2.length ≤ 5) ∧
    I40.run ⟨[.ptr 0 0, .dat tI n], [(0, .box [.dat (.slice tI) L, .dat tI at_])]⟩ = some ⟨[.agg [.slc 2, .dat tI (rightP L at_ n).2.2.1, .dat tI (rightP L at_ n).2.2.2.1, .dat tI (rightP L at_ n).2.2.2.2.1, .dat tI (rightP L at_ n).2.2.2.2.2]],
      [(0, .box [.dat (.slice tI) L, .dat tI (rightP L at_ n).1]), (2, .arr tItem (rightP L at_ n).2.1)]⟩ := by
  obtain ⟨f, hf, a', items, p, q, r, s, rfl, h1, h2, h3, h4⟩ := rp_ends L at_ n h
  refine Classical.epsilon_spec (p := fun p : Int × List Item × Int × Int × Int × Int => (at_ ≤ p.1 ∧ p.1 ≤ at_ + 200 ∧ p.2.1.length ≤ 5 ∧ ∀ x ∈ p.2.1, x.2.2.2.length ≤ 5) ∧
    I40.run ⟨[.ptr 0 0, .dat tI n], [(0, .box [.dat (.slice tI) L, .dat tI at_])]⟩ = some ⟨[.agg [.slc 2, .dat tI p.2.2.1, .dat tI p.2.2.2.1, .dat tI p.2.2.2.2.1, .dat tI p.2.2.2.2.2]], [(0, .box [.dat (.slice tI) L, .dat tI p.1]), (2, .arr tItem p.2.1)]⟩)
    ⟨(a', items, p, q, r, s), ⟨h1, by show a' ≤ _; omega, h3, h4⟩, hf⟩

theorem r40 : R40 := fun a0 L at_ h => (rightP_spec L at_ a0 h).2

end Go.Ev.L

set_option linter.unusedVariables false
set_option linter.unusedSimpArgs false
namespace Go.Ev.L
open Go Go.Ev Go.Proofs
def QAp (L : List Int) (a b : Int) (f : Fr) : Prop := ∃ (a' : Int) (p : Prgm),
  f = ⟨[.dat tPrgm p], [(0, .box [.dat (.slice tI) L, .dat tI a'])]⟩ ∧ a ≤ a' ∧ a' ≤ b ∧ p.1.length ≤ 5

theorem ap_ends (L : List Int) (at_ n : Int) (h : (atOk 2000 at_ && n == 5) = true) :
    Ends (QAp L at_ (at_ + 400)) (I6.run ⟨[.ptr 0 0, .dat tI n], [(0, .box [.dat (.slice tI) L, .dat tI at_])]⟩) := by
  simp only [Bool.and_eq_true] at h
  have h1 := atOk_iff.1 h.1
  have hn : n = 5 := by simpa using h.2
  subst hn
  have hk : (atOk 1000 at_ && decide ((0 : Int) ≤ 5) && decide ((5 : Int) ≤ 5)) = true := by rw [atOk_t h1.1 (by omega)]; rfl
  obtain ⟨⟨s1, s2, s3, s4⟩, _⟩ := rightP_spec L at_ 5 hk
  rw [f6_run]
  refine ends_if hk ?_
  generalize rightP L at_ 5 = P at *
  obtain ⟨a, its, p, q, r, s⟩ := P
  simp only at s1 s2 s3 s4 ⊢
  simp (disch := omega) only [nextAt_s, oddAt]
  have leaf : ∀ (a' : Int) (p : Prgm), at_ ≤ a' → a' ≤ at_ + 400 → p.1.length ≤ 5 → Ends (QAp L at_ (at_ + 400)) (some ⟨[.dat tPrgm p], [(0, .box [.dat (.slice tI) L, .dat tI a'])]⟩) :=
    fun a' p h1 h2 h3 => ends_some ⟨a', p, rfl, h1, h2, h3⟩
  refine ends_if (atOk_t (by omega) (by omega)) (ends_cond (fun _ => ?_) (fun _ => ?_))
  · refine ends_if (atOk_t (by omega) (by omega)) (ends_cond (fun _ => ?_) (fun _ => ends_cond (fun _ => ?_) (fun _ => ends_cond (fun hl => ?_) (fun _ => ?_))))
    · exact ends_if (atOk_t (by omega) (by omega)) (leaf _ _ (by omega) (by omega) s3)
    · exact ends_if (atOk_t (by omega) (by omega)) (ends_if (atOk_t (by omega) (by omega)) (ends_if (atOk_t (by omega) (by omega)) (leaf _ _ (by omega) (by omega) s3)))
    · have hl' : 0 < its.length := by simpa using hl
      obtain ⟨k1, k2⟩ := next_range L (a + 1 + 1) (n := (its.length : Int)) (by omega) (by omega)
      generalize hk : next L (a + 1 + 1) its.length = k at *
      have k3 : Int.toNat k < its.length := by omega
      have k4 : (List.getD its (Int.toNat k) (Tc.dflt tItem)).2.2.2.length ≤ 5 := by
        rw [getI _ _ _ k1 k3]; exact s4 _ (List.getElem_mem ..)
      repeat' first
        | exact leaf _ _ (by omega) (by omega) (by simp only [List.length_set]; exact s3)
        | refine ends_if (atOk_t (by omega) (by omega)) ?_
        | refine ends_if (dT k1) ?_
        | refine ends_if (dT k2) ?_
        | refine ends_if (dT (by simp only [List.length_set]; exact k3)) ?_
        | refine ends_if (dT (by omega)) ?_
        | refine ends_if (atOk_and (by omega) (by omega) rfl rfl) ?_
        | refine ends_if (dT (by simp only [List.length_cons, List.length_nil]; omega)) ?_
    · first
        | exact leaf _ _ (by omega) (by omega) s3
        | exact ends_if (atOk_t (by omega) (by omega)) (leaf _ _ (by omega) (by omega) s3)
  · first
      | exact leaf _ _ (by omega) (by omega) s3
      | exact ends_if (atOk_t (by omega) (by omega)) (leaf _ _ (by omega) (by omega) s3)

theorem aProg_spec (L : List Int) (at_ n : Int) (h : (atOk 2000 at_ && n == 5) = true) :
    (at_ ≤ (aProg L at_ n).1 ∧ (aProg L at_ n).1 ≤ at_ + 400 ∧ (aProg L at_ n).2.1.length ≤ 5) ∧
    I6.run ⟨[.ptr 0 0, .dat tI n], [(0, .box [.dat (.slice tI) L, .dat tI at_])]⟩ = some ⟨[.dat tPrgm (aProg L at_ n).2], [(0, .box [.dat (.slice tI) L, .dat tI (aProg L at_ n).1])]⟩ := by
  obtain ⟨f, hf, a', p, rfl, h1, h2, h3⟩ := ap_ends L at_ n h
  exact Classical.epsilon_spec (p := fun p : Int × Prgm => (at_ ≤ p.1 ∧ p.1 ≤ at_ + 400 ∧ p.2.1.length ≤ 5) ∧
    I6.run ⟨[.ptr 0 0, .dat tI n], [(0, .box [.dat (.slice tI) L, .dat tI at_])]⟩ = some ⟨[.dat tPrgm p.2], [(0, .box [.dat (.slice tI) L, .dat tI p.1])]⟩)
    ⟨(a', p), ⟨h1, h2, h3⟩, hf⟩

theorem r6 : R6 := fun a0 L at_ h => (aProg_spec L at_ a0 h).2

end Go.Ev.L
