import Derived.Test.YtpajbcpdhpnjlaaGreatDoorA3
import Derived.Below
import Derived.Shelf.Sort.Plain
import Derived.Shelf.Small.Strs
import Derived.Shelf.Strings.SlTrimAscii
import Derived.Test.YtpajbcpdhpnjlaaGreatDoorProg
set_option linter.unusedVariables false
set_option linter.unusedSimpArgs false
set_option maxRecDepth 100000
namespace Go.Ev.N
open Go Go.Ev Go.Proofs
theorem f28_run (a0 : Int) (a1 : Int) : I28.run ⟨[.dat tI a0, .dat tI a1], []⟩ = (cond (decide (a1 < (1 : Int))) (some ⟨[.dat tI (0 : Int)], []⟩) (cond (a1 == 0) none (cond (decide ((Int.tmod a0 a1) < (0 : Int))) (some ⟨[.dat tI (wrap .i64 ((Int.tmod a0 a1) + a1))], []⟩) (some ⟨[.dat tI (Int.tmod a0 a1)], []⟩)))) := (I28.run_eq _).trans (by kernel_rfl)
theorem f10_run (a0 : Int) (L : (List Int)) (at_ : Int) : I10.run ⟨[.ptr 0 0, .dat tI a0], [(0, .box [.dat (.slice tI) L, .dat tI at_])]⟩ = (cond (((List.length L : Nat) : Int) == (0 : Int)) (some ⟨[.dat tI (below (wrap .i64 ((wrap .i64 (at_ + (1 : Int))) * (7919 : Int))) a0)], [(0, .box [.dat (.slice tI) L, .dat tI (wrap .i64 (at_ + (1 : Int)))])]⟩) (cond (((List.length L : Nat) : Int) == 0) none (cond (((List.length L : Nat) : Int) == 0) none (cond (decide ((0 : Int) ≤ (Int.tmod (wrap .i64 ((wrap .i64 (at_ + (1 : Int))) - (1 : Int))) ((List.length L : Nat) : Int)))) (cond (decide ((Int.tmod (wrap .i64 ((wrap .i64 (at_ + (1 : Int))) - (1 : Int))) ((List.length L : Nat) : Int)) < ((List.length L : Nat) : Int))) (some ⟨[.dat tI (below (wrap .i64 ((below (List.getD L (Int.toNat (Int.tmod (wrap .i64 ((wrap .i64 (at_ + (1 : Int))) - (1 : Int))) ((List.length L : Nat) : Int))) (Tc.dflt tI)) (1073741824 : Int)) + (wrap .i64 ((wrap .i64 (Int.tdiv (wrap .i64 ((wrap .i64 (at_ + (1 : Int))) - (1 : Int))) ((List.length L : Nat) : Int))) * (wrap .i64 ((7919 : Int) + (Int.tmod (wrap .i64 ((wrap .i64 (at_ + (1 : Int))) - (1 : Int))) ((List.length L : Nat) : Int)))))))) a0)], [(0, .box [.dat (.slice tI) L, .dat tI (wrap .i64 (at_ + (1 : Int)))])]⟩) none) none)))) := (I10.run_eq _).trans (by kernel_rfl)
theorem f6_run (a0 : (List Bytes)) (L : (List Int)) (at_ : Int) : I6.run ⟨[.ptr 0 0, .dat (.slice .str) a0], [(0, .box [.dat (.slice tI) L, .dat tI at_])]⟩ = (cond (atOk 1 at_) (cond (decide ((0 : Int) ≤ (next L at_ ((List.length a0 : Nat) : Int)))) (cond (decide ((next L at_ ((List.length a0 : Nat) : Int)) < ((List.length a0 : Nat) : Int))) (some ⟨[.dat .str (List.getD a0 (Int.toNat (next L at_ ((List.length a0 : Nat) : Int))) (Tc.dflt .str))], [(0, .box [.dat (.slice tI) (L), .dat tI (nextAt at_)])]⟩) none) none) none) := (I6.run_eq _).trans (by kernel_rfl)
theorem f8_run (a0 : Int) (L : (List Int)) (at_ : Int) : I8.run ⟨[.ptr 0 0, .dat tI a0], [(0, .box [.dat (.slice tI) L, .dat tI at_])]⟩ = (cond (atOk 1 at_) (some ⟨[.dat .bool ((next L at_ a0) == (0 : Int))], [(0, .box [.dat (.slice tI) (L), .dat tI (nextAt at_)])]⟩) none) := (I8.run_eq _).trans (by kernel_rfl)
theorem f7_run (a0 : (List Int)) (L : (List Int)) (at_ : Int) : I7.run ⟨[.ptr 0 0, .dat (.slice tI) a0], [(0, .box [.dat (.slice tI) L, .dat tI at_])]⟩ = (cond (atOk 1 at_) (cond (decide ((0 : Int) ≤ (next L at_ ((List.length a0 : Nat) : Int)))) (cond (decide ((next L at_ ((List.length a0 : Nat) : Int)) < ((List.length a0 : Nat) : Int))) (some ⟨[.dat tI (List.getD a0 (Int.toNat (next L at_ ((List.length a0 : Nat) : Int))) (Tc.dflt tI))], [(0, .box [.dat (.slice tI) (L), .dat tI (nextAt at_)])]⟩) none) none) none) := (I7.run_eq _).trans (by kernel_rfl)
noncomputable def f25h0 (x0 : (List Bytes)) (x1 : Int) (x2 : Int) (x3 : (List Int)) (x4 : Int) (x5 : Int) (x6 : Int) (x7 : Int) (x8 : Int) (x9 : Int) (x10 : Int) (x11 : Int) (x12 : Int) (x13 : (List Item)) : Option Fr := I25.hd 0 (mkF 83 [(0, .ptr 0 0), (4, .ptr 501 0), (5, .ptr 502 0), (23, .dat (.slice .str) x0), (24, .dat tI x1), (25, .dat tI x2)] [(0, .box [.dat (.slice tI) x3, .dat tI x4]), (501, .box [.nil0, .dat tI x5, .dat tI x6, .dat tI x7, .dat tI x8]), (502, .box [.slc 503, .dat tI x9, .dat tI x10, .dat tI x11, .dat tI x12]), (503, .arr tItem x13)])
noncomputable def f25h2 (x0 : (List Bytes)) (x1 : Int) (x2 : Int) (x3 : Int) (x4 : Int) (x5 : (List Int)) (x6 : Int) (x7 : Int) (x8 : Int) (x9 : Int) (x10 : Int) (x11 : Int) (x12 : Int) (x13 : Int) (x14 : Int) (x15 : Bytes) (x16 : Bytes) (x17 : Int) (x18 : (List Bytes)) (x19 : (List Item)) (x20 : (List Bytes)) : Option Fr := I25.hd 2 (mkF 83 [(0, .ptr 0 0), (4, .ptr 501 0), (5, .ptr 502 0), (8, .ptr 503 0), (23, .dat (.slice .str) x0), (24, .dat tI x1), (25, .dat tI x2), (39, .slc 504), (40, .dat tI x3), (41, .dat tI x4)] [(0, .box [.dat (.slice tI) x5, .dat tI x6]), (501, .box [.nil0, .dat tI x7, .dat tI x8, .dat tI x9, .dat tI x10]), (502, .box [.slc 505, .dat tI x11, .dat tI x12, .dat tI x13, .dat tI x14]), (503, .box [.dat .str x15, .dat .str x16, .dat tI x17, .slc 506]), (504, .arr .str x18), (505, .arr tItem x19), (506, .arr .str x20)])
theorem f25_run (a0 : Int) (L : (List Int)) (at_ : Int) : I25.run ⟨[.ptr 0 0, .dat tI a0], [(0, .box [.dat (.slice tI) L, .dat tI at_])]⟩ = (cond (atOk 1 at_ && decide (0 < List.length [(0 : Int), (30 : Int), (50 : Int)]) && decide (List.length [(0 : Int), (30 : Int), (50 : Int)] ≤ 1000)) (cond (atOk 1 (nextAt at_) && decide (0 < List.length [(0 : Int), (10 : Int), (30 : Int)]) && decide (List.length [(0 : Int), (10 : Int), (30 : Int)] ≤ 1000)) (cond (atOk 1 (nextAt (nextAt at_)) && decide (0 < List.length [(0 : Int), (100 : Int)]) && decide (List.length [(0 : Int), (100 : Int)] ≤ 1000)) (cond (decide ((0 : Int) ≤ (0 : Int))) (cond (decide ((0 : Int) ≤ a0)) (cond (decide (a0 ≤ ((List.length ([[99], [97], [100], [98], [101]] : List Bytes) : Nat) : Int))) (f25h0 (List.drop (Int.toNat (0 : Int)) (List.take (Int.toNat a0) ([[99], [97], [100], [98], [101]] : List Bytes))) ((List.length (List.drop (Int.toNat (0 : Int)) (List.take (Int.toNat a0) ([[99], [97], [100], [98], [101]] : List Bytes))) : Nat) : Int) (0 : Int) (((L))) (nextAt (nextAt (nextAt at_))) (0 : Int) (0 : Int) (0 : Int) (0 : Int) (pick L at_ [(0 : Int), (30 : Int), (50 : Int)]) (pick (L) (nextAt at_) [(0 : Int), (10 : Int), (30 : Int)]) (pick ((L)) (nextAt (nextAt at_)) [(0 : Int), (100 : Int)]) (-1 : Int) ([] : List Item)) none) none) none) none) none) none) := (I25.run_eq _).trans (by kernel_rfl)
theorem f25h0_eq (x0 : (List Bytes)) (x1 : Int) (x2 : Int) (x3 : (List Int)) (x4 : Int) (x5 : Int) (x6 : Int) (x7 : Int) (x8 : Int) (x9 : Int) (x10 : Int) (x11 : Int) (x12 : Int) (x13 : (List Item)) : f25h0 x0 x1 x2 x3 x4 x5 x6 x7 x8 x9 x10 x11 x12 x13 = (cond (decide (x2 < x1)) (cond (decide ((0 : Int) ≤ x2)) (cond (decide (x2 < ((List.length x0 : Nat) : Int))) (cond (atOk 1 x4) (cond (next x3 x4 (6 : Int) == 0) (f25h0 x0 x1 (wrap .i64 (x2 + (1 : Int))) (x3) (nextAt x4) x5 x6 x7 x8 x9 x10 x11 x12 x13) (cond (atOk 1 (nextAt x4) && decide (0 < List.length ([[114, 111, 119, 115], [114, 111, 119, 115], [99, 105, 114, 99, 108, 101]] : List Bytes)) && decide (List.length ([[114, 111, 119, 115], [114, 111, 119, 115], [99, 105, 114, 99, 108, 101]] : List Bytes) ≤ 1000)) (cond (atOk 1 (nextAt (nextAt x4)) && decide (0 < List.length [(50 : Int), (100 : Int), (100 : Int), (200 : Int)]) && decide (List.length [(50 : Int), (100 : Int), (100 : Int), (200 : Int)] ≤ 1000)) (f25h2 x0 x1 x2 ((List.length ([[97, 108, 116, 111], [98, 97, 115, 115], [115, 111, 108, 105]] : List Bytes) : Nat) : Int) (0 : Int) (((x3))) (nextAt (nextAt (nextAt x4))) x5 x6 x7 x8 x9 x10 x11 x12 (List.getD x0 (Int.toNat x2) (Tc.dflt .str)) (some_ (x3) (nextAt x4) ([[114, 111, 119, 115], [114, 111, 119, 115], [99, 105, 114, 99, 108, 101]] : List Bytes)) (pick ((x3)) (nextAt (nextAt x4)) [(50 : Int), (100 : Int), (100 : Int), (200 : Int)]) ([[97, 108, 116, 111], [98, 97, 115, 115], [115, 111, 108, 105]] : List Bytes) x13 ([] : List Bytes)) none) none)) none) none) none) (cond (decide (((List.length x13 : Nat) : Int) > (1 : Int))) (cond (atOk 1 x4) (cond (next x3 x4 (2 : Int) == 0) (cond (atOk 1 (nextAt x4)) (some ⟨[.agg [.slc 2, .dat tI x9, .dat tI x10, .dat tI x11, .dat tI (next (x3) (nextAt x4) (wrap .i64 (((List.length x13 : Nat) : Int) - (1 : Int))))]], [(0, .box [.dat (.slice tI) ((x3)), .dat tI (nextAt (nextAt x4))]), (2, .arr tItem x13)]⟩) none) (some ⟨[.agg [.slc 2, .dat tI x9, .dat tI x10, .dat tI x11, .dat tI x12]], [(0, .box [.dat (.slice tI) (x3), .dat tI (nextAt x4)]), (2, .arr tItem x13)]⟩)) none) (some ⟨[.agg [.slc 2, .dat tI x9, .dat tI x10, .dat tI x11, .dat tI x12]], [(0, .box [.dat (.slice tI) x3, .dat tI x4]), (2, .arr tItem x13)]⟩))) := hdEq (by kernel_rfl)
theorem f25h2_eq (x0 : (List Bytes)) (x1 : Int) (x2 : Int) (x3 : Int) (x4 : Int) (x5 : (List Int)) (x6 : Int) (x7 : Int) (x8 : Int) (x9 : Int) (x10 : Int) (x11 : Int) (x12 : Int) (x13 : Int) (x14 : Int) (x15 : Bytes) (x16 : Bytes) (x17 : Int) (x18 : (List Bytes)) (x19 : (List Item)) (x20 : (List Bytes)) : f25h2 x0 x1 x2 x3 x4 x5 x6 x7 x8 x9 x10 x11 x12 x13 x14 x15 x16 x17 x18 x19 x20 = (cond (decide (x4 < x3)) (cond (decide ((0 : Int) ≤ x4)) (cond (decide (x4 < ((List.length x18 : Nat) : Int))) (cond (decide ((Int.toNat x4) < List.length x18)) (cond (atOk 1 x6) (cond (next x5 x6 (2 : Int) == 0) (cond (decide ((List.length x20 + List.length ([(List.getD x18 (Int.toNat x4) (Tc.dflt .str))] : List Bytes)) * 16 ≤ 140737488355328)) (f25h2 x0 x1 x2 x3 (wrap .i64 (x4 + (1 : Int))) (x5) (nextAt x6) x7 x8 x9 x10 x11 x12 x13 x14 x15 x16 x17 x18 x19 (x20 ++ ([(List.getD x18 (Int.toNat x4) (Tc.dflt .str))] : List Bytes))) none) (f25h2 x0 x1 x2 x3 (wrap .i64 (x4 + (1 : Int))) (x5) (nextAt x6) x7 x8 x9 x10 x11 x12 x13 x14 x15 x16 x17 x18 x19 x20)) none) none) none) none) (cond (((List.length x20 : Nat) : Int) == (0 : Int)) (cond (decide ((List.length x19 + List.length ([(x15, (x16, (x17, ([[97, 108, 116, 111]] : List Bytes))))] : List Item)) * 64 ≤ 140737488355328)) (f25h0 x0 x1 (wrap .i64 (x2 + (1 : Int))) x5 x6 x7 x8 x9 x10 x11 x12 x13 x14 (x19 ++ ([(x15, (x16, (x17, ([[97, 108, 116, 111]] : List Bytes))))] : List Item))) none) (cond (decide ((List.length x19 + List.length ([(x15, (x16, (x17, x20)))] : List Item)) * 64 ≤ 140737488355328)) (f25h0 x0 x1 (wrap .i64 (x2 + (1 : Int))) x5 x6 x7 x8 x9 x10 x11 x12 x13 x14 (x19 ++ ([(x15, (x16, (x17, x20)))] : List Item))) none))) := hdEq (by kernel_rfl)
theorem f49_run (a0 : Int) (a1 : Int) (L : (List Int)) (at_ : Int) : I49.run ⟨[.ptr 0 0, .dat tI a0, .dat tI a1], [(0, .box [.dat (.slice tI) L, .dat tI at_])]⟩ = (cond (decide (a1 < a0)) (some ⟨[.dat tI a0], [(0, .box [.dat (.slice tI) L, .dat tI at_])]⟩) (cond (atOk 1 at_) (some ⟨[.dat tI (wrap .i64 (a0 + (next L at_ (wrap .i64 ((wrap .i64 (a1 - a0)) + (1 : Int))))))], [(0, .box [.dat (.slice tI) (L), .dat tI (nextAt at_)])]⟩) none)) := (I49.run_eq _).trans (by kernel_rfl)
theorem f26_run (a0 : Int) (a1 : Int) (L : (List Int)) (at_ : Int) : I26.run ⟨[.ptr 0 0, .dat tI a0, .dat tI a1], [(0, .box [.dat (.slice tI) L, .dat tI at_])]⟩ = (cond (atOk 1 at_) (cond (next L at_ (12 : Int) == 0) (cond (atOk 1 (nextAt at_) && decide (0 < List.length [(wrap .i64 (a0 - (1 : Int))), (wrap .i64 (a1 + (1 : Int))), a0, a1, (-1099511627776 : Int), (1099511627776 : Int)]) && decide (List.length [(wrap .i64 (a0 - (1 : Int))), (wrap .i64 (a1 + (1 : Int))), a0, a1, (-1099511627776 : Int), (1099511627776 : Int)] ≤ 1000)) (some ⟨[.dat tI (pick (L) (nextAt at_) [(wrap .i64 (a0 - (1 : Int))), (wrap .i64 (a1 + (1 : Int))), a0, a1, (-1099511627776 : Int), (1099511627776 : Int)])], [(0, .box [.dat (.slice tI) ((L)), .dat tI (nextAt (nextAt at_))])]⟩) none) (cond (atOk 1 (nextAt at_)) (some ⟨[.dat tI (rangeS (L) (nextAt at_) a0 a1)], [(0, .box [.dat (.slice tI) ((L)), .dat tI (rangeAt (nextAt at_) a0 a1)])]⟩) none)) none) := (I26.run_eq _).trans (by kernel_rfl)
theorem f27_run (a0 : (List Bytes)) : I27.run ⟨[.dat (.slice .str) a0], []⟩ = (cond (List.isEmpty a0) (both (some ⟨[.slc 0], [(0, .arr .str ([] : List Bytes))]⟩) (cond (decide ((List.length ([] : List Bytes) + List.length a0) * 16 ≤ 140737488355328)) (some ⟨[.slc 0], [(0, .arr .str (([] : List Bytes) ++ a0))]⟩) none)) (cond (decide ((List.length ([] : List Bytes) + List.length a0) * 16 ≤ 140737488355328)) (some ⟨[.slc 0], [(0, .arr .str (([] : List Bytes) ++ a0))]⟩) none)) := (I27.run_eq _).trans (by kernel_rfl)
theorem f4_run (a0 : Int) (L : (List Int)) (at_ : Int) : I4.run ⟨[.ptr 0 0, .dat tI a0], [(0, .box [.dat (.slice tI) L, .dat tI at_])]⟩ = (cond (atOk 1000 at_ && decide (0 ≤ a0) && decide (a0 ≤ 5)) (cond (atOk 1 ((rightP L at_ a0).1)) (cond (next (L) ((rightP L at_ a0).1) (12 : Int) == 0) (cond (atOk 1 (nextAt ((rightP L at_ a0).1))) (cond ((next ((L)) (nextAt ((rightP L at_ a0).1)) (3 : Int)) == (0 : Int)) (cond (atOk 8 (nextAt (nextAt ((rightP L at_ a0).1)))) (some ⟨[.dat tPrgm (((rightP L at_ a0).2.1), (((rightP L at_ a0).2.2.1), (((rightP L at_ a0).2.2.2.1), (((rightP L at_ a0).2.2.2.2.1), ((oddS (((L))) (nextAt (nextAt ((rightP L at_ a0).1))) (-1 : Int) (4 : Int)).2)))))], [(0, .box [.dat (.slice tI) ((((L)))), .dat tI ((oddS (((L))) (nextAt (nextAt ((rightP L at_ a0).1))) (-1 : Int) (4 : Int)).1)])]⟩) none) (cond ((next ((L)) (nextAt ((rightP L at_ a0).1)) (3 : Int)) == (1 : Int)) (cond (atOk 8 (nextAt (nextAt ((rightP L at_ a0).1)))) (cond (atOk 8 ((oddS (((L))) (nextAt (nextAt ((rightP L at_ a0).1))) (0 : Int) (86400000 : Int)).1)) (cond (atOk 8 ((oddS ((((L)))) ((oddS (((L))) (nextAt (nextAt ((rightP L at_ a0).1))) (0 : Int) (86400000 : Int)).1) (0 : Int) (86400000 : Int)).1)) (some ⟨[.dat tPrgm (((rightP L at_ a0).2.1), (((oddS (((L))) (nextAt (nextAt ((rightP L at_ a0).1))) (0 : Int) (86400000 : Int)).2), (((oddS ((((L)))) ((oddS (((L))) (nextAt (nextAt ((rightP L at_ a0).1))) (0 : Int) (86400000 : Int)).1) (0 : Int) (86400000 : Int)).2), (((oddS (((((L))))) ((oddS ((((L)))) ((oddS (((L))) (nextAt (nextAt ((rightP L at_ a0).1))) (0 : Int) (86400000 : Int)).1) (0 : Int) (86400000 : Int)).1) (0 : Int) (86400000 : Int)).2), ((rightP L at_ a0).2.2.2.2.2)))))], [(0, .box [.dat (.slice tI) ((((((L)))))), .dat tI ((oddS (((((L))))) ((oddS ((((L)))) ((oddS (((L))) (nextAt (nextAt ((rightP L at_ a0).1))) (0 : Int) (86400000 : Int)).1) (0 : Int) (86400000 : Int)).1) (0 : Int) (86400000 : Int)).1)])]⟩) none) none) none) (cond (decide (((List.length ((rightP L at_ a0).2.1) : Nat) : Int) > (0 : Int))) (cond (atOk 1 (nextAt (nextAt ((rightP L at_ a0).1)))) (cond (decide ((0 : Int) ≤ (next (((L))) (nextAt (nextAt ((rightP L at_ a0).1))) ((List.length ((rightP L at_ a0).2.1) : Nat) : Int)))) (cond (decide ((next (((L))) (nextAt (nextAt ((rightP L at_ a0).1))) ((List.length ((rightP L at_ a0).2.1) : Nat) : Int)) < ((List.length ((rightP L at_ a0).2.1) : Nat) : Int))) (cond (decide ((Int.toNat (next (((L))) (nextAt (nextAt ((rightP L at_ a0).1))) ((List.length ((rightP L at_ a0).2.1) : Nat) : Int))) < List.length ((rightP L at_ a0).2.1))) (cond (decide ((Int.toNat (next (((L))) (nextAt (nextAt ((rightP L at_ a0).1))) ((List.length ((rightP L at_ a0).2.1) : Nat) : Int))) < List.length ((rightP L at_ a0).2.1))) (cond (decide ((Int.toNat (next (((L))) (nextAt (nextAt ((rightP L at_ a0).1))) ((List.length ((rightP L at_ a0).2.1) : Nat) : Int))) < List.length ((rightP L at_ a0).2.1))) (cond (atOk 1 (nextAt (nextAt (nextAt ((rightP L at_ a0).1)))) && decide (0 < List.length ([(List.getD ((rightP L at_ a0).2.1) (Int.toNat (next (((L))) (nextAt (nextAt ((rightP L at_ a0).1))) ((List.length ((rightP L at_ a0).2.1) : Nat) : Int))) (Tc.dflt tItem)).1, [], [97]] : List Bytes)) && decide (List.length ([(List.getD ((rightP L at_ a0).2.1) (Int.toNat (next (((L))) (nextAt (nextAt ((rightP L at_ a0).1))) ((List.length ((rightP L at_ a0).2.1) : Nat) : Int))) (Tc.dflt tItem)).1, [], [97]] : List Bytes) ≤ 1000)) (cond (atOk 8 (nextAt (nextAt (nextAt (nextAt ((rightP L at_ a0).1)))))) (cond (decide ((Int.toNat (next (((L))) (nextAt (nextAt ((rightP L at_ a0).1))) ((List.length ((rightP L at_ a0).2.1) : Nat) : Int))) < List.length ((rightP L at_ a0).2.1))) (cond (decide ((Int.toNat (next (((L))) (nextAt (nextAt ((rightP L at_ a0).1))) ((List.length ((rightP L at_ a0).2.1) : Nat) : Int))) < List.length ((rightP L at_ a0).2.1))) (cond (decide ((Int.toNat (next (((L))) (nextAt (nextAt ((rightP L at_ a0).1))) ((List.length ((rightP L at_ a0).2.1) : Nat) : Int))) < List.length ((rightP L at_ a0).2.1))) (cond (decide (List.length (List.getD ((rightP L at_ a0).2.1) (Int.toNat (next (((L))) (nextAt (nextAt ((rightP L at_ a0).1))) ((List.length ((rightP L at_ a0).2.1) : Nat) : Int))) (Tc.dflt tItem)).2.2.2 ≤ 1000)) (cond (atOk 1 ((oddS (((((L))))) (nextAt (nextAt (nextAt (nextAt ((rightP L at_ a0).1))))) (1 : Int) (86400000 : Int)).1) && decide (0 < List.length ([[122, 122], [], [97, 108, 116, 111]] : List Bytes)) && decide (List.length ([[122, 122], [], [97, 108, 116, 111]] : List Bytes) ≤ 1000)) (cond (decide ((List.length ((List.getD ((rightP L at_ a0).2.1) (Int.toNat (next (((L))) (nextAt (nextAt ((rightP L at_ a0).1))) ((List.length ((rightP L at_ a0).2.1) : Nat) : Int))) (Tc.dflt tItem)).2.2.2) + List.length ([(some_ ((((((L)))))) ((oddS (((((L))))) (nextAt (nextAt (nextAt (nextAt ((rightP L at_ a0).1))))) (1 : Int) (86400000 : Int)).1) ([[122, 122], [], [97, 108, 116, 111]] : List Bytes))] : List Bytes)) * 16 ≤ 140737488355328)) (cond (decide ((Int.toNat (next (((L))) (nextAt (nextAt ((rightP L at_ a0).1))) ((List.length ((rightP L at_ a0).2.1) : Nat) : Int))) < List.length ((rightP L at_ a0).2.1))) (cond (decide ((Int.toNat (next (((L))) (nextAt (nextAt ((rightP L at_ a0).1))) ((List.length ((rightP L at_ a0).2.1) : Nat) : Int))) < List.length ((rightP L at_ a0).2.1))) (cond (decide ((Int.toNat (next (((L))) (nextAt (nextAt ((rightP L at_ a0).1))) ((List.length ((rightP L at_ a0).2.1) : Nat) : Int))) < List.length ((rightP L at_ a0).2.1))) (cond (decide ((Int.toNat (next (((L))) (nextAt (nextAt ((rightP L at_ a0).1))) ((List.length ((rightP L at_ a0).2.1) : Nat) : Int))) < List.length (List.set ((rightP L at_ a0).2.1) (Int.toNat (next (((L))) (nextAt (nextAt ((rightP L at_ a0).1))) ((List.length ((rightP L at_ a0).2.1) : Nat) : Int))) ((some_ ((((L)))) (nextAt (nextAt (nextAt ((rightP L at_ a0).1)))) ([(List.getD ((rightP L at_ a0).2.1) (Int.toNat (next (((L))) (nextAt (nextAt ((rightP L at_ a0).1))) ((List.length ((rightP L at_ a0).2.1) : Nat) : Int))) (Tc.dflt tItem)).1, [], [97]] : List Bytes)), (List.getD ((rightP L at_ a0).2.1) (Int.toNat (next (((L))) (nextAt (nextAt ((rightP L at_ a0).1))) ((List.length ((rightP L at_ a0).2.1) : Nat) : Int))) (Tc.dflt tItem)).2)))) (cond (decide ((Int.toNat (next (((L))) (nextAt (nextAt ((rightP L at_ a0).1))) ((List.length ((rightP L at_ a0).2.1) : Nat) : Int))) < List.length (List.set ((rightP L at_ a0).2.1) (Int.toNat (next (((L))) (nextAt (nextAt ((rightP L at_ a0).1))) ((List.length ((rightP L at_ a0).2.1) : Nat) : Int))) ((some_ ((((L)))) (nextAt (nextAt (nextAt ((rightP L at_ a0).1)))) ([(List.getD ((rightP L at_ a0).2.1) (Int.toNat (next (((L))) (nextAt (nextAt ((rightP L at_ a0).1))) ((List.length ((rightP L at_ a0).2.1) : Nat) : Int))) (Tc.dflt tItem)).1, [], [97]] : List Bytes)), (List.getD ((rightP L at_ a0).2.1) (Int.toNat (next (((L))) (nextAt (nextAt ((rightP L at_ a0).1))) ((List.length ((rightP L at_ a0).2.1) : Nat) : Int))) (Tc.dflt tItem)).2)))) (cond (decide ((Int.toNat (next (((L))) (nextAt (nextAt ((rightP L at_ a0).1))) ((List.length ((rightP L at_ a0).2.1) : Nat) : Int))) < List.length (List.set ((rightP L at_ a0).2.1) (Int.toNat (next (((L))) (nextAt (nextAt ((rightP L at_ a0).1))) ((List.length ((rightP L at_ a0).2.1) : Nat) : Int))) ((some_ ((((L)))) (nextAt (nextAt (nextAt ((rightP L at_ a0).1)))) ([(List.getD ((rightP L at_ a0).2.1) (Int.toNat (next (((L))) (nextAt (nextAt ((rightP L at_ a0).1))) ((List.length ((rightP L at_ a0).2.1) : Nat) : Int))) (Tc.dflt tItem)).1, [], [97]] : List Bytes)), (List.getD ((rightP L at_ a0).2.1) (Int.toNat (next (((L))) (nextAt (nextAt ((rightP L at_ a0).1))) ((List.length ((rightP L at_ a0).2.1) : Nat) : Int))) (Tc.dflt tItem)).2)))) (cond (decide ((Int.toNat (next (((L))) (nextAt (nextAt ((rightP L at_ a0).1))) ((List.length ((rightP L at_ a0).2.1) : Nat) : Int))) < List.length (List.set (List.set ((rightP L at_ a0).2.1) (Int.toNat (next (((L))) (nextAt (nextAt ((rightP L at_ a0).1))) ((List.length ((rightP L at_ a0).2.1) : Nat) : Int))) ((some_ ((((L)))) (nextAt (nextAt (nextAt ((rightP L at_ a0).1)))) ([(List.getD ((rightP L at_ a0).2.1) (Int.toNat (next (((L))) (nextAt (nextAt ((rightP L at_ a0).1))) ((List.length ((rightP L at_ a0).2.1) : Nat) : Int))) (Tc.dflt tItem)).1, [], [97]] : List Bytes)), (List.getD ((rightP L at_ a0).2.1) (Int.toNat (next (((L))) (nextAt (nextAt ((rightP L at_ a0).1))) ((List.length ((rightP L at_ a0).2.1) : Nat) : Int))) (Tc.dflt tItem)).2)) (Int.toNat (next (((L))) (nextAt (nextAt ((rightP L at_ a0).1))) ((List.length ((rightP L at_ a0).2.1) : Nat) : Int))) ((List.getD (List.set ((rightP L at_ a0).2.1) (Int.toNat (next (((L))) (nextAt (nextAt ((rightP L at_ a0).1))) ((List.length ((rightP L at_ a0).2.1) : Nat) : Int))) ((some_ ((((L)))) (nextAt (nextAt (nextAt ((rightP L at_ a0).1)))) ([(List.getD ((rightP L at_ a0).2.1) (Int.toNat (next (((L))) (nextAt (nextAt ((rightP L at_ a0).1))) ((List.length ((rightP L at_ a0).2.1) : Nat) : Int))) (Tc.dflt tItem)).1, [], [97]] : List Bytes)), (List.getD ((rightP L at_ a0).2.1) (Int.toNat (next (((L))) (nextAt (nextAt ((rightP L at_ a0).1))) ((List.length ((rightP L at_ a0).2.1) : Nat) : Int))) (Tc.dflt tItem)).2)) (Int.toNat (next (((L))) (nextAt (nextAt ((rightP L at_ a0).1))) ((List.length ((rightP L at_ a0).2.1) : Nat) : Int))) (Tc.dflt tItem)).1, ((List.getD (List.set ((rightP L at_ a0).2.1) (Int.toNat (next (((L))) (nextAt (nextAt ((rightP L at_ a0).1))) ((List.length ((rightP L at_ a0).2.1) : Nat) : Int))) ((some_ ((((L)))) (nextAt (nextAt (nextAt ((rightP L at_ a0).1)))) ([(List.getD ((rightP L at_ a0).2.1) (Int.toNat (next (((L))) (nextAt (nextAt ((rightP L at_ a0).1))) ((List.length ((rightP L at_ a0).2.1) : Nat) : Int))) (Tc.dflt tItem)).1, [], [97]] : List Bytes)), (List.getD ((rightP L at_ a0).2.1) (Int.toNat (next (((L))) (nextAt (nextAt ((rightP L at_ a0).1))) ((List.length ((rightP L at_ a0).2.1) : Nat) : Int))) (Tc.dflt tItem)).2)) (Int.toNat (next (((L))) (nextAt (nextAt ((rightP L at_ a0).1))) ((List.length ((rightP L at_ a0).2.1) : Nat) : Int))) (Tc.dflt tItem)).2.1, (((oddS (((((L))))) (nextAt (nextAt (nextAt (nextAt ((rightP L at_ a0).1))))) (1 : Int) (86400000 : Int)).2), (List.getD (List.set ((rightP L at_ a0).2.1) (Int.toNat (next (((L))) (nextAt (nextAt ((rightP L at_ a0).1))) ((List.length ((rightP L at_ a0).2.1) : Nat) : Int))) ((some_ ((((L)))) (nextAt (nextAt (nextAt ((rightP L at_ a0).1)))) ([(List.getD ((rightP L at_ a0).2.1) (Int.toNat (next (((L))) (nextAt (nextAt ((rightP L at_ a0).1))) ((List.length ((rightP L at_ a0).2.1) : Nat) : Int))) (Tc.dflt tItem)).1, [], [97]] : List Bytes)), (List.getD ((rightP L at_ a0).2.1) (Int.toNat (next (((L))) (nextAt (nextAt ((rightP L at_ a0).1))) ((List.length ((rightP L at_ a0).2.1) : Nat) : Int))) (Tc.dflt tItem)).2)) (Int.toNat (next (((L))) (nextAt (nextAt ((rightP L at_ a0).1))) ((List.length ((rightP L at_ a0).2.1) : Nat) : Int))) (Tc.dflt tItem)).2.2.2)))))) (cond (decide ((Int.toNat (next (((L))) (nextAt (nextAt ((rightP L at_ a0).1))) ((List.length ((rightP L at_ a0).2.1) : Nat) : Int))) < List.length (List.set (List.set ((rightP L at_ a0).2.1) (Int.toNat (next (((L))) (nextAt (nextAt ((rightP L at_ a0).1))) ((List.length ((rightP L at_ a0).2.1) : Nat) : Int))) ((some_ ((((L)))) (nextAt (nextAt (nextAt ((rightP L at_ a0).1)))) ([(List.getD ((rightP L at_ a0).2.1) (Int.toNat (next (((L))) (nextAt (nextAt ((rightP L at_ a0).1))) ((List.length ((rightP L at_ a0).2.1) : Nat) : Int))) (Tc.dflt tItem)).1, [], [97]] : List Bytes)), (List.getD ((rightP L at_ a0).2.1) (Int.toNat (next (((L))) (nextAt (nextAt ((rightP L at_ a0).1))) ((List.length ((rightP L at_ a0).2.1) : Nat) : Int))) (Tc.dflt tItem)).2)) (Int.toNat (next (((L))) (nextAt (nextAt ((rightP L at_ a0).1))) ((List.length ((rightP L at_ a0).2.1) : Nat) : Int))) ((List.getD (List.set ((rightP L at_ a0).2.1) (Int.toNat (next (((L))) (nextAt (nextAt ((rightP L at_ a0).1))) ((List.length ((rightP L at_ a0).2.1) : Nat) : Int))) ((some_ ((((L)))) (nextAt (nextAt (nextAt ((rightP L at_ a0).1)))) ([(List.getD ((rightP L at_ a0).2.1) (Int.toNat (next (((L))) (nextAt (nextAt ((rightP L at_ a0).1))) ((List.length ((rightP L at_ a0).2.1) : Nat) : Int))) (Tc.dflt tItem)).1, [], [97]] : List Bytes)), (List.getD ((rightP L at_ a0).2.1) (Int.toNat (next (((L))) (nextAt (nextAt ((rightP L at_ a0).1))) ((List.length ((rightP L at_ a0).2.1) : Nat) : Int))) (Tc.dflt tItem)).2)) (Int.toNat (next (((L))) (nextAt (nextAt ((rightP L at_ a0).1))) ((List.length ((rightP L at_ a0).2.1) : Nat) : Int))) (Tc.dflt tItem)).1, ((List.getD (List.set ((rightP L at_ a0).2.1) (Int.toNat (next (((L))) (nextAt (nextAt ((rightP L at_ a0).1))) ((List.length ((rightP L at_ a0).2.1) : Nat) : Int))) ((some_ ((((L)))) (nextAt (nextAt (nextAt ((rightP L at_ a0).1)))) ([(List.getD ((rightP L at_ a0).2.1) (Int.toNat (next (((L))) (nextAt (nextAt ((rightP L at_ a0).1))) ((List.length ((rightP L at_ a0).2.1) : Nat) : Int))) (Tc.dflt tItem)).1, [], [97]] : List Bytes)), (List.getD ((rightP L at_ a0).2.1) (Int.toNat (next (((L))) (nextAt (nextAt ((rightP L at_ a0).1))) ((List.length ((rightP L at_ a0).2.1) : Nat) : Int))) (Tc.dflt tItem)).2)) (Int.toNat (next (((L))) (nextAt (nextAt ((rightP L at_ a0).1))) ((List.length ((rightP L at_ a0).2.1) : Nat) : Int))) (Tc.dflt tItem)).2.1, (((oddS (((((L))))) (nextAt (nextAt (nextAt (nextAt ((rightP L at_ a0).1))))) (1 : Int) (86400000 : Int)).2), (List.getD (List.set ((rightP L at_ a0).2.1) (Int.toNat (next (((L))) (nextAt (nextAt ((rightP L at_ a0).1))) ((List.length ((rightP L at_ a0).2.1) : Nat) : Int))) ((some_ ((((L)))) (nextAt (nextAt (nextAt ((rightP L at_ a0).1)))) ([(List.getD ((rightP L at_ a0).2.1) (Int.toNat (next (((L))) (nextAt (nextAt ((rightP L at_ a0).1))) ((List.length ((rightP L at_ a0).2.1) : Nat) : Int))) (Tc.dflt tItem)).1, [], [97]] : List Bytes)), (List.getD ((rightP L at_ a0).2.1) (Int.toNat (next (((L))) (nextAt (nextAt ((rightP L at_ a0).1))) ((List.length ((rightP L at_ a0).2.1) : Nat) : Int))) (Tc.dflt tItem)).2)) (Int.toNat (next (((L))) (nextAt (nextAt ((rightP L at_ a0).1))) ((List.length ((rightP L at_ a0).2.1) : Nat) : Int))) (Tc.dflt tItem)).2.2.2)))))) (cond (decide ((Int.toNat (next (((L))) (nextAt (nextAt ((rightP L at_ a0).1))) ((List.length ((rightP L at_ a0).2.1) : Nat) : Int))) < List.length (List.set (List.set ((rightP L at_ a0).2.1) (Int.toNat (next (((L))) (nextAt (nextAt ((rightP L at_ a0).1))) ((List.length ((rightP L at_ a0).2.1) : Nat) : Int))) ((some_ ((((L)))) (nextAt (nextAt (nextAt ((rightP L at_ a0).1)))) ([(List.getD ((rightP L at_ a0).2.1) (Int.toNat (next (((L))) (nextAt (nextAt ((rightP L at_ a0).1))) ((List.length ((rightP L at_ a0).2.1) : Nat) : Int))) (Tc.dflt tItem)).1, [], [97]] : List Bytes)), (List.getD ((rightP L at_ a0).2.1) (Int.toNat (next (((L))) (nextAt (nextAt ((rightP L at_ a0).1))) ((List.length ((rightP L at_ a0).2.1) : Nat) : Int))) (Tc.dflt tItem)).2)) (Int.toNat (next (((L))) (nextAt (nextAt ((rightP L at_ a0).1))) ((List.length ((rightP L at_ a0).2.1) : Nat) : Int))) ((List.getD (List.set ((rightP L at_ a0).2.1) (Int.toNat (next (((L))) (nextAt (nextAt ((rightP L at_ a0).1))) ((List.length ((rightP L at_ a0).2.1) : Nat) : Int))) ((some_ ((((L)))) (nextAt (nextAt (nextAt ((rightP L at_ a0).1)))) ([(List.getD ((rightP L at_ a0).2.1) (Int.toNat (next (((L))) (nextAt (nextAt ((rightP L at_ a0).1))) ((List.length ((rightP L at_ a0).2.1) : Nat) : Int))) (Tc.dflt tItem)).1, [], [97]] : List Bytes)), (List.getD ((rightP L at_ a0).2.1) (Int.toNat (next (((L))) (nextAt (nextAt ((rightP L at_ a0).1))) ((List.length ((rightP L at_ a0).2.1) : Nat) : Int))) (Tc.dflt tItem)).2)) (Int.toNat (next (((L))) (nextAt (nextAt ((rightP L at_ a0).1))) ((List.length ((rightP L at_ a0).2.1) : Nat) : Int))) (Tc.dflt tItem)).1, ((List.getD (List.set ((rightP L at_ a0).2.1) (Int.toNat (next (((L))) (nextAt (nextAt ((rightP L at_ a0).1))) ((List.length ((rightP L at_ a0).2.1) : Nat) : Int))) ((some_ ((((L)))) (nextAt (nextAt (nextAt ((rightP L at_ a0).1)))) ([(List.getD ((rightP L at_ a0).2.1) (Int.toNat (next (((L))) (nextAt (nextAt ((rightP L at_ a0).1))) ((List.length ((rightP L at_ a0).2.1) : Nat) : Int))) (Tc.dflt tItem)).1, [], [97]] : List Bytes)), (List.getD ((rightP L at_ a0).2.1) (Int.toNat (next (((L))) (nextAt (nextAt ((rightP L at_ a0).1))) ((List.length ((rightP L at_ a0).2.1) : Nat) : Int))) (Tc.dflt tItem)).2)) (Int.toNat (next (((L))) (nextAt (nextAt ((rightP L at_ a0).1))) ((List.length ((rightP L at_ a0).2.1) : Nat) : Int))) (Tc.dflt tItem)).2.1, (((oddS (((((L))))) (nextAt (nextAt (nextAt (nextAt ((rightP L at_ a0).1))))) (1 : Int) (86400000 : Int)).2), (List.getD (List.set ((rightP L at_ a0).2.1) (Int.toNat (next (((L))) (nextAt (nextAt ((rightP L at_ a0).1))) ((List.length ((rightP L at_ a0).2.1) : Nat) : Int))) ((some_ ((((L)))) (nextAt (nextAt (nextAt ((rightP L at_ a0).1)))) ([(List.getD ((rightP L at_ a0).2.1) (Int.toNat (next (((L))) (nextAt (nextAt ((rightP L at_ a0).1))) ((List.length ((rightP L at_ a0).2.1) : Nat) : Int))) (Tc.dflt tItem)).1, [], [97]] : List Bytes)), (List.getD ((rightP L at_ a0).2.1) (Int.toNat (next (((L))) (nextAt (nextAt ((rightP L at_ a0).1))) ((List.length ((rightP L at_ a0).2.1) : Nat) : Int))) (Tc.dflt tItem)).2)) (Int.toNat (next (((L))) (nextAt (nextAt ((rightP L at_ a0).1))) ((List.length ((rightP L at_ a0).2.1) : Nat) : Int))) (Tc.dflt tItem)).2.2.2)))))) (some ⟨[.dat tPrgm ((List.set (List.set (List.set ((rightP L at_ a0).2.1) (Int.toNat (next (((L))) (nextAt (nextAt ((rightP L at_ a0).1))) ((List.length ((rightP L at_ a0).2.1) : Nat) : Int))) ((some_ ((((L)))) (nextAt (nextAt (nextAt ((rightP L at_ a0).1)))) ([(List.getD ((rightP L at_ a0).2.1) (Int.toNat (next (((L))) (nextAt (nextAt ((rightP L at_ a0).1))) ((List.length ((rightP L at_ a0).2.1) : Nat) : Int))) (Tc.dflt tItem)).1, [], [97]] : List Bytes)), (List.getD ((rightP L at_ a0).2.1) (Int.toNat (next (((L))) (nextAt (nextAt ((rightP L at_ a0).1))) ((List.length ((rightP L at_ a0).2.1) : Nat) : Int))) (Tc.dflt tItem)).2)) (Int.toNat (next (((L))) (nextAt (nextAt ((rightP L at_ a0).1))) ((List.length ((rightP L at_ a0).2.1) : Nat) : Int))) ((List.getD (List.set ((rightP L at_ a0).2.1) (Int.toNat (next (((L))) (nextAt (nextAt ((rightP L at_ a0).1))) ((List.length ((rightP L at_ a0).2.1) : Nat) : Int))) ((some_ ((((L)))) (nextAt (nextAt (nextAt ((rightP L at_ a0).1)))) ([(List.getD ((rightP L at_ a0).2.1) (Int.toNat (next (((L))) (nextAt (nextAt ((rightP L at_ a0).1))) ((List.length ((rightP L at_ a0).2.1) : Nat) : Int))) (Tc.dflt tItem)).1, [], [97]] : List Bytes)), (List.getD ((rightP L at_ a0).2.1) (Int.toNat (next (((L))) (nextAt (nextAt ((rightP L at_ a0).1))) ((List.length ((rightP L at_ a0).2.1) : Nat) : Int))) (Tc.dflt tItem)).2)) (Int.toNat (next (((L))) (nextAt (nextAt ((rightP L at_ a0).1))) ((List.length ((rightP L at_ a0).2.1) : Nat) : Int))) (Tc.dflt tItem)).1, ((List.getD (List.set ((rightP L at_ a0).2.1) (Int.toNat (next (((L))) (nextAt (nextAt ((rightP L at_ a0).1))) ((List.length ((rightP L at_ a0).2.1) : Nat) : Int))) ((some_ ((((L)))) (nextAt (nextAt (nextAt ((rightP L at_ a0).1)))) ([(List.getD ((rightP L at_ a0).2.1) (Int.toNat (next (((L))) (nextAt (nextAt ((rightP L at_ a0).1))) ((List.length ((rightP L at_ a0).2.1) : Nat) : Int))) (Tc.dflt tItem)).1, [], [97]] : List Bytes)), (List.getD ((rightP L at_ a0).2.1) (Int.toNat (next (((L))) (nextAt (nextAt ((rightP L at_ a0).1))) ((List.length ((rightP L at_ a0).2.1) : Nat) : Int))) (Tc.dflt tItem)).2)) (Int.toNat (next (((L))) (nextAt (nextAt ((rightP L at_ a0).1))) ((List.length ((rightP L at_ a0).2.1) : Nat) : Int))) (Tc.dflt tItem)).2.1, (((oddS (((((L))))) (nextAt (nextAt (nextAt (nextAt ((rightP L at_ a0).1))))) (1 : Int) (86400000 : Int)).2), (List.getD (List.set ((rightP L at_ a0).2.1) (Int.toNat (next (((L))) (nextAt (nextAt ((rightP L at_ a0).1))) ((List.length ((rightP L at_ a0).2.1) : Nat) : Int))) ((some_ ((((L)))) (nextAt (nextAt (nextAt ((rightP L at_ a0).1)))) ([(List.getD ((rightP L at_ a0).2.1) (Int.toNat (next (((L))) (nextAt (nextAt ((rightP L at_ a0).1))) ((List.length ((rightP L at_ a0).2.1) : Nat) : Int))) (Tc.dflt tItem)).1, [], [97]] : List Bytes)), (List.getD ((rightP L at_ a0).2.1) (Int.toNat (next (((L))) (nextAt (nextAt ((rightP L at_ a0).1))) ((List.length ((rightP L at_ a0).2.1) : Nat) : Int))) (Tc.dflt tItem)).2)) (Int.toNat (next (((L))) (nextAt (nextAt ((rightP L at_ a0).1))) ((List.length ((rightP L at_ a0).2.1) : Nat) : Int))) (Tc.dflt tItem)).2.2.2)))) (Int.toNat (next (((L))) (nextAt (nextAt ((rightP L at_ a0).1))) ((List.length ((rightP L at_ a0).2.1) : Nat) : Int))) ((List.getD (List.set (List.set ((rightP L at_ a0).2.1) (Int.toNat (next (((L))) (nextAt (nextAt ((rightP L at_ a0).1))) ((List.length ((rightP L at_ a0).2.1) : Nat) : Int))) ((some_ ((((L)))) (nextAt (nextAt (nextAt ((rightP L at_ a0).1)))) ([(List.getD ((rightP L at_ a0).2.1) (Int.toNat (next (((L))) (nextAt (nextAt ((rightP L at_ a0).1))) ((List.length ((rightP L at_ a0).2.1) : Nat) : Int))) (Tc.dflt tItem)).1, [], [97]] : List Bytes)), (List.getD ((rightP L at_ a0).2.1) (Int.toNat (next (((L))) (nextAt (nextAt ((rightP L at_ a0).1))) ((List.length ((rightP L at_ a0).2.1) : Nat) : Int))) (Tc.dflt tItem)).2)) (Int.toNat (next (((L))) (nextAt (nextAt ((rightP L at_ a0).1))) ((List.length ((rightP L at_ a0).2.1) : Nat) : Int))) ((List.getD (List.set ((rightP L at_ a0).2.1) (Int.toNat (next (((L))) (nextAt (nextAt ((rightP L at_ a0).1))) ((List.length ((rightP L at_ a0).2.1) : Nat) : Int))) ((some_ ((((L)))) (nextAt (nextAt (nextAt ((rightP L at_ a0).1)))) ([(List.getD ((rightP L at_ a0).2.1) (Int.toNat (next (((L))) (nextAt (nextAt ((rightP L at_ a0).1))) ((List.length ((rightP L at_ a0).2.1) : Nat) : Int))) (Tc.dflt tItem)).1, [], [97]] : List Bytes)), (List.getD ((rightP L at_ a0).2.1) (Int.toNat (next (((L))) (nextAt (nextAt ((rightP L at_ a0).1))) ((List.length ((rightP L at_ a0).2.1) : Nat) : Int))) (Tc.dflt tItem)).2)) (Int.toNat (next (((L))) (nextAt (nextAt ((rightP L at_ a0).1))) ((List.length ((rightP L at_ a0).2.1) : Nat) : Int))) (Tc.dflt tItem)).1, ((List.getD (List.set ((rightP L at_ a0).2.1) (Int.toNat (next (((L))) (nextAt (nextAt ((rightP L at_ a0).1))) ((List.length ((rightP L at_ a0).2.1) : Nat) : Int))) ((some_ ((((L)))) (nextAt (nextAt (nextAt ((rightP L at_ a0).1)))) ([(List.getD ((rightP L at_ a0).2.1) (Int.toNat (next (((L))) (nextAt (nextAt ((rightP L at_ a0).1))) ((List.length ((rightP L at_ a0).2.1) : Nat) : Int))) (Tc.dflt tItem)).1, [], [97]] : List Bytes)), (List.getD ((rightP L at_ a0).2.1) (Int.toNat (next (((L))) (nextAt (nextAt ((rightP L at_ a0).1))) ((List.length ((rightP L at_ a0).2.1) : Nat) : Int))) (Tc.dflt tItem)).2)) (Int.toNat (next (((L))) (nextAt (nextAt ((rightP L at_ a0).1))) ((List.length ((rightP L at_ a0).2.1) : Nat) : Int))) (Tc.dflt tItem)).2.1, (((oddS (((((L))))) (nextAt (nextAt (nextAt (nextAt ((rightP L at_ a0).1))))) (1 : Int) (86400000 : Int)).2), (List.getD (List.set ((rightP L at_ a0).2.1) (Int.toNat (next (((L))) (nextAt (nextAt ((rightP L at_ a0).1))) ((List.length ((rightP L at_ a0).2.1) : Nat) : Int))) ((some_ ((((L)))) (nextAt (nextAt (nextAt ((rightP L at_ a0).1)))) ([(List.getD ((rightP L at_ a0).2.1) (Int.toNat (next (((L))) (nextAt (nextAt ((rightP L at_ a0).1))) ((List.length ((rightP L at_ a0).2.1) : Nat) : Int))) (Tc.dflt tItem)).1, [], [97]] : List Bytes)), (List.getD ((rightP L at_ a0).2.1) (Int.toNat (next (((L))) (nextAt (nextAt ((rightP L at_ a0).1))) ((List.length ((rightP L at_ a0).2.1) : Nat) : Int))) (Tc.dflt tItem)).2)) (Int.toNat (next (((L))) (nextAt (nextAt ((rightP L at_ a0).1))) ((List.length ((rightP L at_ a0).2.1) : Nat) : Int))) (Tc.dflt tItem)).2.2.2)))) (Int.toNat (next (((L))) (nextAt (nextAt ((rightP L at_ a0).1))) ((List.length ((rightP L at_ a0).2.1) : Nat) : Int))) (Tc.dflt tItem)).1, ((List.getD (List.set (List.set ((rightP L at_ a0).2.1) (Int.toNat (next (((L))) (nextAt (nextAt ((rightP L at_ a0).1))) ((List.length ((rightP L at_ a0).2.1) : Nat) : Int))) ((some_ ((((L)))) (nextAt (nextAt (nextAt ((rightP L at_ a0).1)))) ([(List.getD ((rightP L at_ a0).2.1) (Int.toNat (next (((L))) (nextAt (nextAt ((rightP L at_ a0).1))) ((List.length ((rightP L at_ a0).2.1) : Nat) : Int))) (Tc.dflt tItem)).1, [], [97]] : List Bytes)), (List.getD ((rightP L at_ a0).2.1) (Int.toNat (next (((L))) (nextAt (nextAt ((rightP L at_ a0).1))) ((List.length ((rightP L at_ a0).2.1) : Nat) : Int))) (Tc.dflt tItem)).2)) (Int.toNat (next (((L))) (nextAt (nextAt ((rightP L at_ a0).1))) ((List.length ((rightP L at_ a0).2.1) : Nat) : Int))) ((List.getD (List.set ((rightP L at_ a0).2.1) (Int.toNat (next (((L))) (nextAt (nextAt ((rightP L at_ a0).1))) ((List.length ((rightP L at_ a0).2.1) : Nat) : Int))) ((some_ ((((L)))) (nextAt (nextAt (nextAt ((rightP L at_ a0).1)))) ([(List.getD ((rightP L at_ a0).2.1) (Int.toNat (next (((L))) (nextAt (nextAt ((rightP L at_ a0).1))) ((List.length ((rightP L at_ a0).2.1) : Nat) : Int))) (Tc.dflt tItem)).1, [], [97]] : List Bytes)), (List.getD ((rightP L at_ a0).2.1) (Int.toNat (next (((L))) (nextAt (nextAt ((rightP L at_ a0).1))) ((List.length ((rightP L at_ a0).2.1) : Nat) : Int))) (Tc.dflt tItem)).2)) (Int.toNat (next (((L))) (nextAt (nextAt ((rightP L at_ a0).1))) ((List.length ((rightP L at_ a0).2.1) : Nat) : Int))) (Tc.dflt tItem)).1, ((List.getD (List.set ((rightP L at_ a0).2.1) (Int.toNat (next (((L))) (nextAt (nextAt ((rightP L at_ a0).1))) ((List.length ((rightP L at_ a0).2.1) : Nat) : Int))) ((some_ ((((L)))) (nextAt (nextAt (nextAt ((rightP L at_ a0).1)))) ([(List.getD ((rightP L at_ a0).2.1) (Int.toNat (next (((L))) (nextAt (nextAt ((rightP L at_ a0).1))) ((List.length ((rightP L at_ a0).2.1) : Nat) : Int))) (Tc.dflt tItem)).1, [], [97]] : List Bytes)), (List.getD ((rightP L at_ a0).2.1) (Int.toNat (next (((L))) (nextAt (nextAt ((rightP L at_ a0).1))) ((List.length ((rightP L at_ a0).2.1) : Nat) : Int))) (Tc.dflt tItem)).2)) (Int.toNat (next (((L))) (nextAt (nextAt ((rightP L at_ a0).1))) ((List.length ((rightP L at_ a0).2.1) : Nat) : Int))) (Tc.dflt tItem)).2.1, (((oddS (((((L))))) (nextAt (nextAt (nextAt (nextAt ((rightP L at_ a0).1))))) (1 : Int) (86400000 : Int)).2), (List.getD (List.set ((rightP L at_ a0).2.1) (Int.toNat (next (((L))) (nextAt (nextAt ((rightP L at_ a0).1))) ((List.length ((rightP L at_ a0).2.1) : Nat) : Int))) ((some_ ((((L)))) (nextAt (nextAt (nextAt ((rightP L at_ a0).1)))) ([(List.getD ((rightP L at_ a0).2.1) (Int.toNat (next (((L))) (nextAt (nextAt ((rightP L at_ a0).1))) ((List.length ((rightP L at_ a0).2.1) : Nat) : Int))) (Tc.dflt tItem)).1, [], [97]] : List Bytes)), (List.getD ((rightP L at_ a0).2.1) (Int.toNat (next (((L))) (nextAt (nextAt ((rightP L at_ a0).1))) ((List.length ((rightP L at_ a0).2.1) : Nat) : Int))) (Tc.dflt tItem)).2)) (Int.toNat (next (((L))) (nextAt (nextAt ((rightP L at_ a0).1))) ((List.length ((rightP L at_ a0).2.1) : Nat) : Int))) (Tc.dflt tItem)).2.2.2)))) (Int.toNat (next (((L))) (nextAt (nextAt ((rightP L at_ a0).1))) ((List.length ((rightP L at_ a0).2.1) : Nat) : Int))) (Tc.dflt tItem)).2.1, ((List.getD (List.set (List.set ((rightP L at_ a0).2.1) (Int.toNat (next (((L))) (nextAt (nextAt ((rightP L at_ a0).1))) ((List.length ((rightP L at_ a0).2.1) : Nat) : Int))) ((some_ ((((L)))) (nextAt (nextAt (nextAt ((rightP L at_ a0).1)))) ([(List.getD ((rightP L at_ a0).2.1) (Int.toNat (next (((L))) (nextAt (nextAt ((rightP L at_ a0).1))) ((List.length ((rightP L at_ a0).2.1) : Nat) : Int))) (Tc.dflt tItem)).1, [], [97]] : List Bytes)), (List.getD ((rightP L at_ a0).2.1) (Int.toNat (next (((L))) (nextAt (nextAt ((rightP L at_ a0).1))) ((List.length ((rightP L at_ a0).2.1) : Nat) : Int))) (Tc.dflt tItem)).2)) (Int.toNat (next (((L))) (nextAt (nextAt ((rightP L at_ a0).1))) ((List.length ((rightP L at_ a0).2.1) : Nat) : Int))) ((List.getD (List.set ((rightP L at_ a0).2.1) (Int.toNat (next (((L))) (nextAt (nextAt ((rightP L at_ a0).1))) ((List.length ((rightP L at_ a0).2.1) : Nat) : Int))) ((some_ ((((L)))) (nextAt (nextAt (nextAt ((rightP L at_ a0).1)))) ([(List.getD ((rightP L at_ a0).2.1) (Int.toNat (next (((L))) (nextAt (nextAt ((rightP L at_ a0).1))) ((List.length ((rightP L at_ a0).2.1) : Nat) : Int))) (Tc.dflt tItem)).1, [], [97]] : List Bytes)), (List.getD ((rightP L at_ a0).2.1) (Int.toNat (next (((L))) (nextAt (nextAt ((rightP L at_ a0).1))) ((List.length ((rightP L at_ a0).2.1) : Nat) : Int))) (Tc.dflt tItem)).2)) (Int.toNat (next (((L))) (nextAt (nextAt ((rightP L at_ a0).1))) ((List.length ((rightP L at_ a0).2.1) : Nat) : Int))) (Tc.dflt tItem)).1, ((List.getD (List.set ((rightP L at_ a0).2.1) (Int.toNat (next (((L))) (nextAt (nextAt ((rightP L at_ a0).1))) ((List.length ((rightP L at_ a0).2.1) : Nat) : Int))) ((some_ ((((L)))) (nextAt (nextAt (nextAt ((rightP L at_ a0).1)))) ([(List.getD ((rightP L at_ a0).2.1) (Int.toNat (next (((L))) (nextAt (nextAt ((rightP L at_ a0).1))) ((List.length ((rightP L at_ a0).2.1) : Nat) : Int))) (Tc.dflt tItem)).1, [], [97]] : List Bytes)), (List.getD ((rightP L at_ a0).2.1) (Int.toNat (next (((L))) (nextAt (nextAt ((rightP L at_ a0).1))) ((List.length ((rightP L at_ a0).2.1) : Nat) : Int))) (Tc.dflt tItem)).2)) (Int.toNat (next (((L))) (nextAt (nextAt ((rightP L at_ a0).1))) ((List.length ((rightP L at_ a0).2.1) : Nat) : Int))) (Tc.dflt tItem)).2.1, (((oddS (((((L))))) (nextAt (nextAt (nextAt (nextAt ((rightP L at_ a0).1))))) (1 : Int) (86400000 : Int)).2), (List.getD (List.set ((rightP L at_ a0).2.1) (Int.toNat (next (((L))) (nextAt (nextAt ((rightP L at_ a0).1))) ((List.length ((rightP L at_ a0).2.1) : Nat) : Int))) ((some_ ((((L)))) (nextAt (nextAt (nextAt ((rightP L at_ a0).1)))) ([(List.getD ((rightP L at_ a0).2.1) (Int.toNat (next (((L))) (nextAt (nextAt ((rightP L at_ a0).1))) ((List.length ((rightP L at_ a0).2.1) : Nat) : Int))) (Tc.dflt tItem)).1, [], [97]] : List Bytes)), (List.getD ((rightP L at_ a0).2.1) (Int.toNat (next (((L))) (nextAt (nextAt ((rightP L at_ a0).1))) ((List.length ((rightP L at_ a0).2.1) : Nat) : Int))) (Tc.dflt tItem)).2)) (Int.toNat (next (((L))) (nextAt (nextAt ((rightP L at_ a0).1))) ((List.length ((rightP L at_ a0).2.1) : Nat) : Int))) (Tc.dflt tItem)).2.2.2)))) (Int.toNat (next (((L))) (nextAt (nextAt ((rightP L at_ a0).1))) ((List.length ((rightP L at_ a0).2.1) : Nat) : Int))) (Tc.dflt tItem)).2.2.1, (((List.getD ((rightP L at_ a0).2.1) (Int.toNat (next (((L))) (nextAt (nextAt ((rightP L at_ a0).1))) ((List.length ((rightP L at_ a0).2.1) : Nat) : Int))) (Tc.dflt tItem)).2.2.2) ++ ([(some_ ((((((L)))))) ((oddS (((((L))))) (nextAt (nextAt (nextAt (nextAt ((rightP L at_ a0).1))))) (1 : Int) (86400000 : Int)).1) ([[122, 122], [], [97, 108, 116, 111]] : List Bytes))] : List Bytes)))))), (((rightP L at_ a0).2.2.1), (((rightP L at_ a0).2.2.2.1), (((rightP L at_ a0).2.2.2.2.1), ((rightP L at_ a0).2.2.2.2.2)))))], [(0, .box [.dat (.slice tI) (((((((L))))))), .dat tI (nextAt ((oddS (((((L))))) (nextAt (nextAt (nextAt (nextAt ((rightP L at_ a0).1))))) (1 : Int) (86400000 : Int)).1))])]⟩) none) none) none) none) none) none) none) none) none) none) none) none) none) none) none) none) none) none) none) none) none) none) none) (some ⟨[.dat tPrgm (((rightP L at_ a0).2.1), (((rightP L at_ a0).2.2.1), (((rightP L at_ a0).2.2.2.1), (((rightP L at_ a0).2.2.2.2.1), ((rightP L at_ a0).2.2.2.2.2)))))], [(0, .box [.dat (.slice tI) (((L))), .dat tI (nextAt (nextAt ((rightP L at_ a0).1)))])]⟩)))) none) (some ⟨[.dat tPrgm (((rightP L at_ a0).2.1), (((rightP L at_ a0).2.2.1), (((rightP L at_ a0).2.2.2.1), (((rightP L at_ a0).2.2.2.2.1), ((rightP L at_ a0).2.2.2.2.2)))))], [(0, .box [.dat (.slice tI) ((L)), .dat tI (nextAt ((rightP L at_ a0).1))])]⟩)) none) none) := (I4.run_eq _).trans (by kernel_rfl)
theorem f5_run (L : (List Int)) (at_ : Int) : I5.run ⟨[.ptr 0 0], [(0, .box [.dat (.slice tI) L, .dat tI at_])]⟩ = (cond (atOk 1 at_ && decide (0 < List.length [(0 : Int), (0 : Int), (100 : Int), (1000 : Int), (-1 : Int), (345686399500 : Int), (345686400000 : Int)]) && decide (List.length [(0 : Int), (0 : Int), (100 : Int), (1000 : Int), (-1 : Int), (345686399500 : Int), (345686400000 : Int)] ≤ 1000)) (some ⟨[.dat tI (pick L at_ [(0 : Int), (0 : Int), (100 : Int), (1000 : Int), (-1 : Int), (345686399500 : Int), (345686400000 : Int)])], [(0, .box [.dat (.slice tI) (L), .dat tI (nextAt at_)])]⟩) none) := (I5.run_eq _).trans (by kernel_rfl)
theorem f9_run (a0 : (List Item)) : I9.run ⟨[.dat (.slice tItem) a0], []⟩ = (cond (List.isEmpty a0) (both (some ⟨[.slc 0], [(0, .arr tItem ([] : List Item))]⟩) (cond (decide ((List.length ([] : List Item) + List.length a0) * 64 ≤ 140737488355328)) (some ⟨[.slc 0], [(0, .arr tItem (([] : List Item) ++ a0))]⟩) none)) (cond (decide ((List.length ([] : List Item) + List.length a0) * 64 ≤ 140737488355328)) (some ⟨[.slc 0], [(0, .arr tItem (([] : List Item) ++ a0))]⟩) none)) := (I9.run_eq _).trans (by kernel_rfl)
theorem f51_run (a0 : Int) (a1 : Int) (a2 : Int) : I51.run ⟨[.dat tI a0, .dat tI a1, .dat tI a2], []⟩ = (cond (decide (a0 < a1)) (some ⟨[.dat .bool true], []⟩) (some ⟨[.dat .bool (decide (a0 > a2))], []⟩)) := (I51.run_eq _).trans (by kernel_rfl)
theorem f31_run (a0 : Int) : I31.run ⟨[.dat tI a0], []⟩ = (some ⟨[.dat .bool (!(outside a0 (0 : Int) (345686399999 : Int)))], []⟩) := (I31.run_eq _).trans (by kernel_rfl)
theorem f61_run (a0 : Prgm) (a1 : Item) (a2 : Item) : I61.run ⟨[.dat tPrgm a0, .dat tItem a1, .dat tItem a2], []⟩ = (cond (!(a1.2.1 == a2.2.1)) (some ⟨[.dat tI a0.2.1], []⟩) (some ⟨[.dat tI a0.2.2.1], []⟩)) := (I61.run_eq _).trans (by kernel_rfl)
theorem f52_run (a0 : Prgm) (a1 : Int) : I52.run ⟨[.dat tPrgm a0, .dat tI a1], []⟩ = (cond (a1 == a0.2.2.2.2) (some ⟨[.dat tI a0.2.2.2.1], []⟩) (cond (decide ((0 : Int) ≤ a1)) (cond (decide (a1 < ((List.length a0.1 : Nat) : Int))) (cond (decide ((0 : Int) ≤ (wrap .i64 (a1 + (1 : Int))))) (cond (decide ((wrap .i64 (a1 + (1 : Int))) < ((List.length a0.1 : Nat) : Int))) (some ⟨[.dat tI (t61_0 (a0.1, (a0.2.1, (a0.2.2.1, (a0.2.2.2.1, a0.2.2.2.2)))) (List.getD a0.1 (Int.toNat a1) (Tc.dflt tItem)) (List.getD a0.1 (Int.toNat (wrap .i64 (a1 + (1 : Int)))) (Tc.dflt tItem)))], []⟩) none) none) none) none)) := (I52.run_eq _).trans (by kernel_rfl)
noncomputable def f32h0 (x0 : Int) (x1 : (List Item)) (x2 : Int) (x3 : Int) (x4 : (List Item)) (x5 : Int) (x6 : Int) (x7 : Int) (x8 : Int) (x9 : (List Int)) : Option Fr := I32.hd 0 (mkF 38 [(1, .ptr 500 0), (4, .slc 501), (5, .dat tI x0), (9, .dat (.slice tItem) x1), (10, .dat tI x2), (11, .dat tI x3)] [(500, .box [.dat (.slice tItem) x4, .dat tI x5, .dat tI x6, .dat tI x7, .dat tI x8]), (501, .arr tI x9)])
theorem f32_run (a0 : Prgm) : I32.run ⟨[.dat tPrgm a0], []⟩ = (f32h0 (0 : Int) a0.1 ((List.length a0.1 : Nat) : Int) (0 : Int) a0.1 a0.2.1 a0.2.2.1 a0.2.2.2.1 a0.2.2.2.2 ([] : List Int)) := (I32.run_eq _).trans (by kernel_rfl)
theorem f32h0_eq (x0 : Int) (x1 : (List Item)) (x2 : Int) (x3 : Int) (x4 : (List Item)) (x5 : Int) (x6 : Int) (x7 : Int) (x8 : Int) (x9 : (List Int)) : f32h0 x0 x1 x2 x3 x4 x5 x6 x7 x8 x9 = (cond (decide (x3 < x2)) (cond (decide ((0 : Int) ≤ x3)) (cond (decide (x3 < ((List.length x1 : Nat) : Int))) (cond (decide ((List.length x9 + List.length [x0]) * 8 ≤ 140737488355328)) (cond (decide ((wrap .i64 (x3 + (1 : Int))) < ((List.length x4 : Nat) : Int))) (cond (decide (0 ≤ x3) && decide (x3 + 1 < (List.length (x4, (x5, (x6, (x7, x8)))).1 : Int)) && decide (List.length (x4, (x5, (x6, (x7, x8)))).1 ≤ 1000)) (f32h0 (wrap .i64 ((wrap .i64 (x0 + (List.getD x1 (Int.toNat x3) (Tc.dflt tItem)).2.2.1)) + (behindF (x4, (x5, (x6, (x7, x8)))) x3))) x1 x2 (wrap .i64 (x3 + (1 : Int))) x4 x5 x6 x7 x8 (x9 ++ [x0])) none) (f32h0 (wrap .i64 (x0 + (List.getD x1 (Int.toNat x3) (Tc.dflt tItem)).2.2.1)) x1 x2 (wrap .i64 (x3 + (1 : Int))) x4 x5 x6 x7 x8 (x9 ++ [x0]))) none) none) none) (some ⟨[.slc 0, .dat tI x0], [(0, .arr tI x9)]⟩)) := hdEq (by kernel_rfl)
theorem f64_run (a0 : Item) (k : Bytes) (pl : Bytes) (lg : Int) (ps : (List Bytes)) : I64.run ⟨[.dat tItem a0, .ptr 0 0], [(0, .box [.dat .str k, .dat .str pl, .dat tI lg, .dat (.slice .str) ps])]⟩ = (some ⟨[.dat .bool (a0.1 == k)], [(0, .box [.dat .str k, .dat .str pl, .dat tI lg, .dat (.slice .str) ps])]⟩) := (I64.run_eq _).trans (by kernel_rfl)
noncomputable def f41h0 (x0 : (List Item)) (x1 : Int) (x2 : Int) (x3 : Bytes) (x4 : Bytes) (x5 : Int) (x6 : (List Bytes)) : Option Fr := I41.hd 0 (mkF 19 [(0, .dat (.slice tItem) x0), (1, .clos 64 [.ptr 0 0]), (7, .dat tI x1), (8, .dat tI x2)] [(0, .box [.dat .str x3, .dat .str x4, .dat tI x5, .dat (.slice .str) x6])])
theorem f41_run (a0 : (List Item)) (k : Bytes) (pl : Bytes) (lg : Int) (ps : (List Bytes)) : I41.run ⟨[.dat (.slice tItem) a0, .clos 64 [.ptr 0 0]], [(0, .box [.dat .str k, .dat .str pl, .dat tI lg, .dat (.slice .str) ps])]⟩ = (f41h0 a0 ((List.length a0 : Nat) : Int) (0 : Int) k pl lg ps) := (I41.run_eq _).trans (by kernel_rfl)
theorem f41h0_eq (x0 : (List Item)) (x1 : Int) (x2 : Int) (x3 : Bytes) (x4 : Bytes) (x5 : Int) (x6 : (List Bytes)) : f41h0 x0 x1 x2 x3 x4 x5 x6 = (cond (decide (x2 < x1)) (cond (decide ((0 : Int) ≤ x2)) (cond (decide (x2 < ((List.length x0 : Nat) : Int))) (cond (t64_0 (List.getD x0 (Int.toNat x2) (Tc.dflt tItem)) x3 x4 x5 x6) (some ⟨[.dat tI x2], [(0, .box [.dat .str x3, .dat .str x4, .dat tI x5, .dat (.slice .str) x6])]⟩) (f41h0 x0 x1 (wrap .i64 (x2 + (1 : Int))) x3 x4 x5 x6)) none) none) (some ⟨[.dat tI (-1 : Int)], [(0, .box [.dat .str x3, .dat .str x4, .dat tI x5, .dat (.slice .str) x6])]⟩)) := hdEq (by kernel_rfl)
theorem f63_run (a0 : (List Item)) (k : Bytes) (pl : Bytes) (lg : Int) (ps : (List Bytes)) : I63.run ⟨[.dat (.slice tItem) a0, .clos 64 [.ptr 0 0]], [(0, .box [.dat .str k, .dat .str pl, .dat tI lg, .dat (.slice .str) ps])]⟩ = (cond (decide (List.length a0 ≤ 1000)) (some ⟨[.dat .bool (decide ((idxBy (fun o => t64_0 o k pl lg ps) a0 0) ≥ (0 : Int)))], [(0, .box [.dat .str (k), .dat .str (pl), .dat tI (lg), .dat (.slice .str) (ps)])]⟩) none) := (I63.run_eq _).trans (by kernel_rfl)
theorem f62_run (a0 : Bytes) : I62.run ⟨[.dat .str a0], []⟩ = (cond (!(a0 == [])) (cond (decide (((List.length a0 : Nat) : Int) ≤ (40 : Int))) (cond (decide ((0 : Int) ≤ (0 : Int))) (cond (decide ((0 : Int) < ((List.length a0 : Nat) : Int))) (cond (decide ((indexB [97, 98, 99, 100, 101, 102, 103, 104, 105, 106, 107, 108, 109, 110, 111, 112, 113, 114, 115, 116, 117, 118, 119, 120, 121, 122] ((UInt8.toNat (List.getD a0 (Int.toNat (0 : Int)) 0) : Nat) : Int)) ≥ (0 : Int))) (cond (trimOk a0 [97, 98, 99, 100, 101, 102, 103, 104, 105, 106, 107, 108, 109, 110, 111, 112, 113, 114, 115, 116, 117, 118, 119, 120, 121, 122, 48, 49, 50, 51, 52, 53, 54, 55, 56, 57, 45, 95]) (some ⟨[.dat .bool ((trimB a0 [97, 98, 99, 100, 101, 102, 103, 104, 105, 106, 107, 108, 109, 110, 111, 112, 113, 114, 115, 116, 117, 118, 119, 120, 121, 122, 48, 49, 50, 51, 52, 53, 54, 55, 56, 57, 45, 95]) == [])], []⟩) none) (some ⟨[.dat .bool false], []⟩)) none) none) (some ⟨[.dat .bool false], []⟩)) (some ⟨[.dat .bool false], []⟩)) := (I62.run_eq _).trans (by kernel_rfl)
noncomputable def f65h0 (x0 : (List Bytes)) (x1 : (List Bytes)) (x2 : Int) (x3 : Int) : Option Fr := I65.hd 0 (mkF 33 [(0, .dat (.slice .str) x0), (11, .dat (.slice .str) x1), (12, .dat tI x2), (13, .dat tI x3)] [])
theorem f65_run (a0 : (List Bytes)) : I65.run ⟨[.dat (.slice .str) a0], []⟩ = (cond (((List.length a0 : Nat) : Int) == (0 : Int)) (some ⟨[.dat tI (8 : Int)], []⟩) (cond (decide (((List.length a0 : Nat) : Int) > (12 : Int))) (some ⟨[.dat tI (2 : Int)], []⟩) (f65h0 a0 a0 ((List.length a0 : Nat) : Int) (0 : Int)))) := (I65.run_eq _).trans (by kernel_rfl)
theorem f65h0_eq (x0 : (List Bytes)) (x1 : (List Bytes)) (x2 : Int) (x3 : Int) : f65h0 x0 x1 x2 x3 = (cond (decide (x3 < x2)) (cond (decide ((0 : Int) ≤ x3)) (cond (decide (x3 < ((List.length x1 : Nat) : Int))) (cond (!(isKey (List.getD x1 (Int.toNat x3) (Tc.dflt .str)))) (some ⟨[.dat tI (5 : Int)], []⟩) (cond (decide (x3 > (0 : Int))) (cond (decide ((0 : Int) ≤ (wrap .i64 (x3 - (1 : Int))))) (cond (decide ((wrap .i64 (x3 - (1 : Int))) < ((List.length x0 : Nat) : Int))) (cond (bLess (List.getD x1 (Int.toNat x3) (Tc.dflt .str)) (List.getD x0 (Int.toNat (wrap .i64 (x3 - (1 : Int)))) (Tc.dflt .str)) || (List.getD x1 (Int.toNat x3) (Tc.dflt .str)) == (List.getD x0 (Int.toNat (wrap .i64 (x3 - (1 : Int)))) (Tc.dflt .str))) (some ⟨[.dat tI (7 : Int)], []⟩) (f65h0 x0 x1 x2 (wrap .i64 (x3 + (1 : Int))))) none) none) (f65h0 x0 x1 x2 (wrap .i64 (x3 + (1 : Int)))))) none) none) (some ⟨[.dat tI (0 : Int)], []⟩)) := hdEq (by kernel_rfl)
noncomputable def f54h0 (x0 : (List Item)) (x1 : (List Item)) (x2 : Int) (x3 : Int) : Option Fr := I54.hd 0 (mkF 44 [(0, .dat (.slice tItem) x0), (9, .dat (.slice tItem) x1), (10, .dat tI x2), (11, .dat tI x3)] [])
theorem f54_run (a0 : (List Item)) : I54.run ⟨[.dat (.slice tItem) a0], []⟩ = (cond (decide (((List.length a0 : Nat) : Int) > (60 : Int))) (some ⟨[.dat tI (2 : Int)], []⟩) (f54h0 a0 a0 ((List.length a0 : Nat) : Int) (0 : Int))) := (I54.run_eq _).trans (by kernel_rfl)
theorem f54h0_eq (x0 : (List Item)) (x1 : (List Item)) (x2 : Int) (x3 : Int) : f54h0 x0 x1 x2 x3 = (cond (decide (x3 < x2)) (cond (decide ((0 : Int) ≤ x3)) (cond (decide (x3 < ((List.length x1 : Nat) : Int))) (cond (!(isKey (List.getD x1 (Int.toNat x3) (Tc.dflt tItem)).1)) (some ⟨[.dat tI (5 : Int)], []⟩) (cond (!(isKey (List.getD x1 (Int.toNat x3) (Tc.dflt tItem)).2.1)) (some ⟨[.dat tI (5 : Int)], []⟩) (cond (decide ((0 : Int) ≤ (0 : Int))) (cond (decide ((0 : Int) ≤ x3)) (cond (decide (x3 ≤ ((List.length x0 : Nat) : Int))) (cond (t63_ok (List.drop (Int.toNat (0 : Int)) (List.take (Int.toNat x3) x0)) (List.getD x1 (Int.toNat x3) (Tc.dflt tItem)).1 (List.getD x1 (Int.toNat x3) (Tc.dflt tItem)).2.1 (List.getD x1 (Int.toNat x3) (Tc.dflt tItem)).2.2.1 (List.getD x1 (Int.toNat x3) (Tc.dflt tItem)).2.2.2) (cond (t63_0 (List.drop (Int.toNat (0 : Int)) (List.take (Int.toNat x3) x0)) (List.getD x1 (Int.toNat x3) (Tc.dflt tItem)).1 (List.getD x1 (Int.toNat x3) (Tc.dflt tItem)).2.1 (List.getD x1 (Int.toNat x3) (Tc.dflt tItem)).2.2.1 (List.getD x1 (Int.toNat x3) (Tc.dflt tItem)).2.2.2) (some ⟨[.dat tI (6 : Int)], []⟩) (cond (outside (List.getD x1 (Int.toNat x3) (Tc.dflt tItem)).2.2.1 (1 : Int) (86400000 : Int)) (some ⟨[.dat tI (1 : Int)], []⟩) (cond ((partsF isKey (List.getD x1 (Int.toNat x3) (Tc.dflt tItem)).2.2.2) != (0 : Int)) (some ⟨[.dat tI (partsF isKey (List.getD x1 (Int.toNat x3) (Tc.dflt tItem)).2.2.2)], []⟩) (f54h0 x0 x1 x2 (wrap .i64 (x3 + (1 : Int))))))) none) none) none) none))) none) none) (some ⟨[.dat tI (0 : Int)], []⟩)) := hdEq (by kernel_rfl)
theorem f35_run (a0 : Prgm) : I35.run ⟨[.dat tPrgm a0], []⟩ = (cond ((checkItems isKey a0.1) != (0 : Int)) (some ⟨[.dat tI (checkItems isKey a0.1)], []⟩) (cond (outside a0.2.1 (0 : Int) (86400000 : Int)) (some ⟨[.dat tI (1 : Int)], []⟩) (cond (outside a0.2.2.1 (0 : Int) (86400000 : Int)) (some ⟨[.dat tI (1 : Int)], []⟩) (cond (outside a0.2.2.2.1 (0 : Int) (86400000 : Int)) (some ⟨[.dat tI (1 : Int)], []⟩) (cond (outside a0.2.2.2.2 (-1 : Int) (if (-1 : Int) < (wrap .i64 (((List.length a0.1 : Nat) : Int) - (2 : Int))) then (wrap .i64 (((List.length a0.1 : Nat) : Int) - (2 : Int))) else (-1 : Int))) (some ⟨[.dat tI (1 : Int)], []⟩) (some ⟨[.dat tI (0 : Int)], []⟩)))))) := (I35.run_eq _).trans (by kernel_rfl)
theorem f29_run (a0 : Prgm) (a1 : Int) : I29.run ⟨[.dat tPrgm a0, .dat tI a1], []⟩ = (cond ((checkProg isKey (a0.1, (a0.2.1, (a0.2.2.1, (a0.2.2.2.1, a0.2.2.2.2))))) != (0 : Int)) (some ⟨[.dat tI (checkProg isKey (a0.1, (a0.2.1, (a0.2.2.1, (a0.2.2.2.1, a0.2.2.2.2)))))], []⟩) (cond (decide (List.length (a0.1, (a0.2.1, (a0.2.2.1, (a0.2.2.2.1, a0.2.2.2.2)))).1 ≤ 1000)) (cond (!(t31_0 a1)) (some ⟨[.dat tI (1 : Int)], []⟩) (cond (decide ((wrap .i64 (a1 + ((begGo (a0.1, (a0.2.1, (a0.2.2.1, (a0.2.2.2.1, a0.2.2.2.2)))) 0 0 (a0.1, (a0.2.1, (a0.2.2.1, (a0.2.2.2.1, a0.2.2.2.2)))).1).2))) > (345686400000 : Int))) (some ⟨[.dat tI (1 : Int)], []⟩) (some ⟨[.dat tI (0 : Int)], []⟩))) none)) := (I29.run_eq _).trans (by kernel_rfl)
theorem f50_run (a0 : Item) (k : Bytes) : I50.run ⟨[.dat tItem a0, .ptr 0 0], [(0, .box [.dat .str k])]⟩ = (some ⟨[.dat .bool (a0.1 == k)], [(0, .box [.dat .str k])]⟩) := (I50.run_eq _).trans (by kernel_rfl)
noncomputable def f41ah0 (x0 : (List Item)) (x1 : Int) (x2 : Int) (x3 : Bytes) : Option Fr := I41a.hd 0 (mkF 19 [(0, .dat (.slice tItem) x0), (1, .clos 50 [.ptr 0 0]), (7, .dat tI x1), (8, .dat tI x2)] [(0, .box [.dat .str x3])])
theorem f41a_run (a0 : (List Item)) (k : Bytes) : I41a.run ⟨[.dat (.slice tItem) a0, .clos 50 [.ptr 0 0]], [(0, .box [.dat .str k])]⟩ = (f41ah0 a0 ((List.length a0 : Nat) : Int) (0 : Int) k) := (I41a.run_eq _).trans (by kernel_rfl)
theorem f41ah0_eq (x0 : (List Item)) (x1 : Int) (x2 : Int) (x3 : Bytes) : f41ah0 x0 x1 x2 x3 = (cond (decide (x2 < x1)) (cond (decide ((0 : Int) ≤ x2)) (cond (decide (x2 < ((List.length x0 : Nat) : Int))) (cond (t50_0 (List.getD x0 (Int.toNat x2) (Tc.dflt tItem)) x3) (some ⟨[.dat tI x2], [(0, .box [.dat .str x3])]⟩) (f41ah0 x0 x1 (wrap .i64 (x2 + (1 : Int))) x3)) none) none) (some ⟨[.dat tI (-1 : Int)], [(0, .box [.dat .str x3])]⟩)) := hdEq (by kernel_rfl)
theorem f30_run (a0 : Prgm) (a1 : Bytes) : I30.run ⟨[.dat tPrgm a0, .dat .str a1], []⟩ = (cond (decide (List.length a0.1 ≤ 1000)) (some ⟨[.dat tI (idxBy (fun o => t50_0 o a1) a0.1 0)], []⟩) none) := (I30.run_eq _).trans (by kernel_rfl)
theorem f11_run (a0 : Prgm) (a1 : Int) (a2 : Bytes) (a3 : Int) : I11.run ⟨[.dat tPrgm a0, .dat tI a1, .dat .str a2, .dat tI a3], []⟩ = (cond ((fromF (a0.1, (a0.2.1, (a0.2.2.1, (a0.2.2.2.1, a0.2.2.2.2)))) a1) != (0 : Int)) (some ⟨[.dat tI (0 : Int), .dat tI (fromF (a0.1, (a0.2.1, (a0.2.2.1, (a0.2.2.2.1, a0.2.2.2.2)))) a1)], []⟩) (cond (t30_ok (a0.1, (a0.2.1, (a0.2.2.1, (a0.2.2.2.1, a0.2.2.2.2)))) a2) (cond (decide ((t30_0 (a0.1, (a0.2.1, (a0.2.2.1, (a0.2.2.2.1, a0.2.2.2.2)))) a2) < (0 : Int))) (some ⟨[.dat tI (0 : Int), .dat tI (8 : Int)], []⟩) (cond (!(t31_0 a3)) (some ⟨[.dat tI (0 : Int), .dat tI (1 : Int)], []⟩) (cond (decide (List.length (a0.1, (a0.2.1, (a0.2.2.1, (a0.2.2.2.1, a0.2.2.2.2)))).1 ≤ 1000)) (cond (decide ((0 : Int) ≤ (t30_0 (a0.1, (a0.2.1, (a0.2.2.1, (a0.2.2.2.1, a0.2.2.2.2)))) a2))) (cond (decide ((t30_0 (a0.1, (a0.2.1, (a0.2.2.1, (a0.2.2.2.1, a0.2.2.2.2)))) a2) < ((List.length ((begGo (a0.1, (a0.2.1, (a0.2.2.1, (a0.2.2.2.1, a0.2.2.2.2)))) 0 0 (a0.1, (a0.2.1, (a0.2.2.1, (a0.2.2.2.1, a0.2.2.2.2)))).1).1) : Nat) : Int))) (cond (decide ((Int.toNat (t30_0 (a0.1, (a0.2.1, (a0.2.2.1, (a0.2.2.2.1, a0.2.2.2.2)))) a2)) < List.length ((begGo (a0.1, (a0.2.1, (a0.2.2.1, (a0.2.2.2.1, a0.2.2.2.2)))) 0 0 (a0.1, (a0.2.1, (a0.2.2.1, (a0.2.2.2.1, a0.2.2.2.2)))).1).1))) (some ⟨[.dat tI (wrap .i64 ((wrap .i64 (a3 - a1)) - (List.getD ((begGo (a0.1, (a0.2.1, (a0.2.2.1, (a0.2.2.2.1, a0.2.2.2.2)))) 0 0 (a0.1, (a0.2.1, (a0.2.2.1, (a0.2.2.2.1, a0.2.2.2.2)))).1).1) (Int.toNat (t30_0 (a0.1, (a0.2.1, (a0.2.2.1, (a0.2.2.2.1, a0.2.2.2.2)))) a2)) (Tc.dflt tI)))), .dat tI (0 : Int)], []⟩) none) none) none) none))) none)) := (I11.run_eq _).trans (by kernel_rfl)
theorem f34_run (a0 : Bytes) (es : (List (Bytes × Bool))) : I34.run ⟨[.dat .str a0, .ptr 0 0], [(0, .box [.mp 1]), (1, .map .str .bool es)]⟩ = (some ⟨[.dat .bool (!(Option.getD (mapFind .str .bool a0 es) (Tc.dflt .bool)))], [(0, .box [.mp 1]), (1, .map .str .bool es)]⟩) := (I34.run_eq _).trans (by kernel_rfl)
end Go.Ev.N

set_option linter.unusedVariables false
set_option linter.unusedSimpArgs false
set_option maxRecDepth 100000
namespace Go.Ev.N
open Go Go.Ev Go.Proofs
noncomputable def f53h0 (x0 : (List Bytes)) (x1 : Int) (x2 : Int) (x3 : (List (Bytes × Bool))) : Option Fr := I53.hd 0 (mkF 19 [(0, .dat (.slice .str) x0), (1, .clos 34 [.ptr 0 0]), (7, .dat tI x1), (8, .dat tI x2)] [(0, .box [.mp 1]), (1, .map .str .bool x3)])
theorem f53_run (a0 : (List Bytes)) (es : (List (Bytes × Bool))) : I53.run ⟨[.dat (.slice .str) a0, .clos 34 [.ptr 0 0]], [(0, .box [.mp 1]), (1, .map .str .bool es)]⟩ = (f53h0 a0 ((List.length a0 : Nat) : Int) (0 : Int) es) := (I53.run_eq _).trans (by kernel_rfl)
theorem f53h0_eq (x0 : (List Bytes)) (x1 : Int) (x2 : Int) (x3 : (List (Bytes × Bool))) : f53h0 x0 x1 x2 x3 = (cond (decide (x2 < x1)) (cond (decide ((0 : Int) ≤ x2)) (cond (decide (x2 < ((List.length x0 : Nat) : Int))) (cond (t34_0 (List.getD x0 (Int.toNat x2) (Tc.dflt .str)) x3) (some ⟨[.dat tI x2], [(0, .box [.mp 1]), (1, .map .str .bool x3)]⟩) (f53h0 x0 x1 (wrap .i64 (x2 + (1 : Int))) x3)) none) none) (some ⟨[.dat tI (-1 : Int)], [(0, .box [.mp 1]), (1, .map .str .bool x3)]⟩)) := hdEq (by kernel_rfl)
theorem f33_run (a0 : (List Bytes)) (es : (List (Bytes × Bool))) : I33.run ⟨[.dat (.slice .str) a0, .clos 34 [.ptr 0 0]], [(0, .box [.mp 1]), (1, .map .str .bool es)]⟩ = (cond (decide (List.length a0 ≤ 1000)) (some ⟨[.dat .bool (decide ((idxBy (fun o => t34_0 o es) a0 0) ≥ (0 : Int)))], [(0, .box [.mp 1]), (1, .map .str .bool (es))]⟩) none) := (I33.run_eq _).trans (by kernel_rfl)
noncomputable def f12h0 (x0 : Int) (x1 : Int) (x2 : (List Item)) (x3 : Int) (x4 : Int) (x5 : (List Int)) (x6 : (List Bytes)) (x7 : (List (Bytes × Bool))) : Option Fr := I12.hd 0 (mkF 76 [(1, .dat tI x0), (2, .dat tI x1), (9, .slc 500), (11, .ptr 501 0), (12, .slc 502), (34, .dat (.slice tItem) x2), (35, .dat tI x3), (36, .dat tI x4)] [(500, .arr tI x5), (501, .box [.mp 503]), (502, .arr .str x6), (503, .map .str .bool x7)])
noncomputable def f12h2 (x0 : Int) (x1 : Int) (x2 : (List Item)) (x3 : Int) (x4 : Int) (x5 : (List Bytes)) (x6 : Int) (x7 : Int) (x8 : (List Int)) (x9 : (List Bytes)) (x10 : (List (Bytes × Bool))) : Option Fr := I12.hd 2 (mkF 76 [(1, .dat tI x0), (2, .dat tI x1), (9, .slc 500), (11, .ptr 501 0), (12, .slc 502), (34, .dat (.slice tItem) x2), (35, .dat tI x3), (36, .dat tI x4), (65, .dat (.slice .str) x5), (66, .dat tI x6), (67, .dat tI x7)] [(500, .arr tI x8), (501, .box [.mp 503]), (502, .arr .str x9), (503, .map .str .bool x10)])
theorem f12_run (a0 : Prgm) (a1 : Int) (a2 : Int) : I12.run ⟨[.dat tPrgm a0, .dat tI a1, .dat tI a2], []⟩ = (cond ((fromF (a0.1, (a0.2.1, (a0.2.2.1, (a0.2.2.2.1, a0.2.2.2.2)))) a1) != (0 : Int)) (some ⟨[.dat (.slice .str) ([] : List Bytes), .dat tI (fromF (a0.1, (a0.2.1, (a0.2.2.1, (a0.2.2.2.1, a0.2.2.2.2)))) a1)], []⟩) (cond (!(t31_0 a2)) (some ⟨[.dat (.slice .str) ([] : List Bytes), .dat tI (1 : Int)], []⟩) (cond (decide (List.length (a0.1, (a0.2.1, (a0.2.2.1, (a0.2.2.2.1, a0.2.2.2.2)))).1 ≤ 1000)) (f12h0 a1 a2 a0.1 ((List.length a0.1 : Nat) : Int) (0 : Int) ((begGo (a0.1, (a0.2.1, (a0.2.2.1, (a0.2.2.2.1, a0.2.2.2.2)))) 0 0 (a0.1, (a0.2.1, (a0.2.2.1, (a0.2.2.2.1, a0.2.2.2.2)))).1).1) ([] : List Bytes) ([] : List (Bytes × Bool))) none))) := (I12.run_eq _).trans (by kernel_rfl)
theorem f12h0_eq (x0 : Int) (x1 : Int) (x2 : (List Item)) (x3 : Int) (x4 : Int) (x5 : (List Int)) (x6 : (List Bytes)) (x7 : (List (Bytes × Bool))) : f12h0 x0 x1 x2 x3 x4 x5 x6 x7 = (cond (decide (x4 < x3)) (cond (decide ((0 : Int) ≤ x4)) (cond (decide (x4 < ((List.length x2 : Nat) : Int))) (cond (t33_ok (List.getD x2 (Int.toNat x4) (Tc.dflt tItem)).2.2.2 x7) (cond (t33_0 (List.getD x2 (Int.toNat x4) (Tc.dflt tItem)).2.2.2 x7) (cond (decide ((0 : Int) ≤ x4)) (cond (decide (x4 < ((List.length x5 : Nat) : Int))) (cond (decide ((Int.toNat x4) < List.length x5)) (cond (decide ((wrap .i64 ((wrap .i64 (x0 + (List.getD x5 (Int.toNat x4) (Tc.dflt tI)))) + (List.getD x2 (Int.toNat x4) (Tc.dflt tItem)).2.2.1)) > x1)) (cond (decide ((List.length x6 + List.length ([(List.getD x2 (Int.toNat x4) (Tc.dflt tItem)).1] : List Bytes)) * 16 ≤ 140737488355328)) (f12h2 x0 x1 x2 x3 x4 (List.getD x2 (Int.toNat x4) (Tc.dflt tItem)).2.2.2 ((List.length (List.getD x2 (Int.toNat x4) (Tc.dflt tItem)).2.2.2 : Nat) : Int) (0 : Int) x5 (x6 ++ ([(List.getD x2 (Int.toNat x4) (Tc.dflt tItem)).1] : List Bytes)) x7) none) (f12h2 x0 x1 x2 x3 x4 (List.getD x2 (Int.toNat x4) (Tc.dflt tItem)).2.2.2 ((List.length (List.getD x2 (Int.toNat x4) (Tc.dflt tItem)).2.2.2 : Nat) : Int) (0 : Int) x5 x6 x7)) none) none) none) (f12h2 x0 x1 x2 x3 x4 (List.getD x2 (Int.toNat x4) (Tc.dflt tItem)).2.2.2 ((List.length (List.getD x2 (Int.toNat x4) (Tc.dflt tItem)).2.2.2 : Nat) : Int) (0 : Int) x5 x6 x7)) none) none) none) (some ⟨[.dat (.slice .str) x6, .dat tI (0 : Int)], []⟩)) := hdEq (by kernel_rfl)
theorem f12h2_eq (x0 : Int) (x1 : Int) (x2 : (List Item)) (x3 : Int) (x4 : Int) (x5 : (List Bytes)) (x6 : Int) (x7 : Int) (x8 : (List Int)) (x9 : (List Bytes)) (x10 : (List (Bytes × Bool))) : f12h2 x0 x1 x2 x3 x4 x5 x6 x7 x8 x9 x10 = (cond (decide (x7 < x6)) (cond (decide ((0 : Int) ≤ x7)) (cond (decide (x7 < ((List.length x5 : Nat) : Int))) (f12h2 x0 x1 x2 x3 x4 x5 x6 (wrap .i64 (x7 + (1 : Int))) x8 x9 (mapPut .str .bool (List.getD x5 (Int.toNat x7) (Tc.dflt .str)) true x10)) none) none) (f12h0 x0 x1 x2 x3 (wrap .i64 (x4 + (1 : Int))) x8 x9 x10)) := hdEq (by kernel_rfl)
noncomputable def f23h0 (x0 : (List Bytes)) (x1 : (List Bytes)) (x2 : Int) (x3 : Int) : Option Fr := I23.hd 0 (mkF 26 [(0, .dat (.slice .str) x0), (1, .dat (.slice .str) x1), (12, .dat tI x2), (13, .dat tI x3)] [])
theorem f23_run (a0 : (List Bytes)) (a1 : (List Bytes)) : I23.run ⟨[.dat (.slice .str) a0, .dat (.slice .str) a1], []⟩ = (cond (((List.length a0 : Nat) : Int) != ((List.length a1 : Nat) : Int)) (some ⟨[.dat .bool false], []⟩) (f23h0 a0 a1 ((List.length a0 : Nat) : Int) (0 : Int))) := (I23.run_eq _).trans (by kernel_rfl)
theorem f23h0_eq (x0 : (List Bytes)) (x1 : (List Bytes)) (x2 : Int) (x3 : Int) : f23h0 x0 x1 x2 x3 = (cond (decide (x3 < x2)) (cond (decide ((0 : Int) ≤ x3)) (cond (decide (x3 < ((List.length x0 : Nat) : Int))) (cond (decide ((0 : Int) ≤ x3)) (cond (decide (x3 < ((List.length x1 : Nat) : Int))) (cond (!((List.getD x0 (Int.toNat x3) (Tc.dflt .str)) == (List.getD x1 (Int.toNat x3) (Tc.dflt .str)))) (some ⟨[.dat .bool false], []⟩) (f23h0 x0 x1 x2 (wrap .i64 (x3 + (1 : Int))))) none) none) none) none) (some ⟨[.dat .bool true], []⟩)) := hdEq (by kernel_rfl)
theorem f36_run (a0 : Item) (a1 : Item) : I36.run ⟨[.dat tItem a0, .dat tItem a1], []⟩ = (cond (a0.2.1 == a1.2.1) (cond (a0.2.2.1 == a1.2.2.1) (cond (decide (List.length a0.2.2.2 ≤ 1000)) (some ⟨[.dat .bool (a0.2.2.2 == a1.2.2.2)], []⟩) none) (some ⟨[.dat .bool false], []⟩)) (some ⟨[.dat .bool false], []⟩)) := (I36.run_eq _).trans (by kernel_rfl)
noncomputable def f13h0 (x0 : Int) (x1 : Int) (x2 : (List Item)) (x3 : Int) (x4 : Int) (x5 : Int) (x6 : Int) (x7 : (List Item)) (x8 : Int) (x9 : Int) (x10 : Int) (x11 : Int) (x12 : (List Prgm)) : Option Fr := I13.hd 0 (mkF 88 [(2, .ptr 500 0), (3, .ptr 501 0), (21, .slc 502), (22, .dat tI x0), (23, .dat tI x1)] [(500, .box [.dat (.slice tItem) x2, .dat tI x3, .dat tI x4, .dat tI x5, .dat tI x6]), (501, .box [.dat (.slice tItem) x7, .dat tI x8, .dat tI x9, .dat tI x10, .dat tI x11]), (502, .arr tPrgm x12)])
noncomputable def f13h2 (x0 : (List Item)) (x1 : Int) (x2 : Int) (x3 : (List Item)) (x4 : Int) (x5 : Int) (x6 : Int) (x7 : Int) (x8 : (List Item)) (x9 : Int) (x10 : Int) (x11 : Int) (x12 : Int) (x13 : (List Bytes)) (x14 : (List Bytes)) : Option Fr := I13.hd 2 (mkF 88 [(2, .ptr 500 0), (3, .ptr 501 0), (11, .slc 502), (12, .nil0), (13, .slc 503), (34, .dat (.slice tItem) x0), (35, .dat tI x1), (36, .dat tI x2)] [(500, .box [.dat (.slice tItem) x3, .dat tI x4, .dat tI x5, .dat tI x6, .dat tI x7]), (501, .box [.dat (.slice tItem) x8, .dat tI x9, .dat tI x10, .dat tI x11, .dat tI x12]), (502, .arr .str x13), (503, .arr .str x14)])
noncomputable def f13h5 (x0 : (List Item)) (x1 : Int) (x2 : Int) (x3 : (List Item)) (x4 : Int) (x5 : Int) (x6 : Int) (x7 : Int) (x8 : (List Bytes)) (x9 : (List Bytes)) (x10 : (List Bytes)) : Option Fr := I13.hd 5 (mkF 88 [(2, .ptr 500 0), (11, .slc 501), (12, .slc 502), (13, .slc 503), (68, .dat (.slice tItem) x0), (69, .dat tI x1), (70, .dat tI x2)] [(500, .box [.dat (.slice tItem) x3, .dat tI x4, .dat tI x5, .dat tI x6, .dat tI x7]), (501, .arr .str x8), (502, .arr .str x9), (503, .arr .str x10)])
theorem f13_run (a0 : Prgm) (a1 : Prgm) : I13.run ⟨[.dat tPrgm a0, .dat tPrgm a1], []⟩ = (f13h0 ((List.length ([(a0.1, (a0.2.1, (a0.2.2.1, (a0.2.2.2.1, a0.2.2.2.2)))), (a1.1, (a1.2.1, (a1.2.2.1, (a1.2.2.2.1, a1.2.2.2.2))))] : List Prgm) : Nat) : Int) (0 : Int) a0.1 a0.2.1 a0.2.2.1 a0.2.2.2.1 a0.2.2.2.2 a1.1 a1.2.1 a1.2.2.1 a1.2.2.2.1 a1.2.2.2.2 ([(a0.1, (a0.2.1, (a0.2.2.1, (a0.2.2.2.1, a0.2.2.2.2)))), (a1.1, (a1.2.1, (a1.2.2.1, (a1.2.2.2.1, a1.2.2.2.2))))] : List Prgm)) := (I13.run_eq _).trans (by kernel_rfl)
theorem f13h0_eq (x0 : Int) (x1 : Int) (x2 : (List Item)) (x3 : Int) (x4 : Int) (x5 : Int) (x6 : Int) (x7 : (List Item)) (x8 : Int) (x9 : Int) (x10 : Int) (x11 : Int) (x12 : (List Prgm)) : f13h0 x0 x1 x2 x3 x4 x5 x6 x7 x8 x9 x10 x11 x12 = (cond (decide (x1 < x0)) (cond (decide ((0 : Int) ≤ x1)) (cond (decide (x1 < ((List.length x12 : Nat) : Int))) (cond (decide ((Int.toNat x1) < List.length x12)) (cond ((checkProg isKey ((List.getD x12 (Int.toNat x1) (Tc.dflt tPrgm)).1, ((List.getD x12 (Int.toNat x1) (Tc.dflt tPrgm)).2.1, ((List.getD x12 (Int.toNat x1) (Tc.dflt tPrgm)).2.2.1, ((List.getD x12 (Int.toNat x1) (Tc.dflt tPrgm)).2.2.2.1, (List.getD x12 (Int.toNat x1) (Tc.dflt tPrgm)).2.2.2.2))))) != (0 : Int)) (some ⟨[.dat (.slice .str) ([] : List Bytes), .dat (.slice .str) ([] : List Bytes), .dat (.slice .str) ([] : List Bytes), .dat tI (checkProg isKey ((List.getD x12 (Int.toNat x1) (Tc.dflt tPrgm)).1, ((List.getD x12 (Int.toNat x1) (Tc.dflt tPrgm)).2.1, ((List.getD x12 (Int.toNat x1) (Tc.dflt tPrgm)).2.2.1, ((List.getD x12 (Int.toNat x1) (Tc.dflt tPrgm)).2.2.2.1, (List.getD x12 (Int.toNat x1) (Tc.dflt tPrgm)).2.2.2.2)))))], []⟩) (f13h0 x0 (wrap .i64 (x1 + (1 : Int))) x2 x3 x4 x5 x6 x7 x8 x9 x10 x11 x12)) none) none) none) (f13h2 x2 ((List.length x2 : Nat) : Int) (0 : Int) x2 x3 x4 x5 x6 x7 x8 x9 x10 x11 ([] : List Bytes) ([] : List Bytes))) := hdEq (by kernel_rfl)
theorem f13h2_eq (x0 : (List Item)) (x1 : Int) (x2 : Int) (x3 : (List Item)) (x4 : Int) (x5 : Int) (x6 : Int) (x7 : Int) (x8 : (List Item)) (x9 : Int) (x10 : Int) (x11 : Int) (x12 : Int) (x13 : (List Bytes)) (x14 : (List Bytes)) : f13h2 x0 x1 x2 x3 x4 x5 x6 x7 x8 x9 x10 x11 x12 x13 x14 = (cond (decide (x2 < x1)) (cond (decide ((0 : Int) ≤ x2)) (cond (decide (x2 < ((List.length x0 : Nat) : Int))) (cond (t30_ok (x8, (x9, (x10, (x11, x12)))) (List.getD x0 (Int.toNat x2) (Tc.dflt tItem)).1) (cond (decide ((t30_0 (x8, (x9, (x10, (x11, x12)))) (List.getD x0 (Int.toNat x2) (Tc.dflt tItem)).1) < (0 : Int))) (cond (decide ((List.length x13 + List.length ([(List.getD x0 (Int.toNat x2) (Tc.dflt tItem)).1] : List Bytes)) * 16 ≤ 140737488355328)) (f13h2 x0 x1 (wrap .i64 (x2 + (1 : Int))) x3 x4 x5 x6 x7 x8 x9 x10 x11 x12 (x13 ++ ([(List.getD x0 (Int.toNat x2) (Tc.dflt tItem)).1] : List Bytes)) x14) none) (cond (decide ((0 : Int) ≤ (t30_0 (x8, (x9, (x10, (x11, x12)))) (List.getD x0 (Int.toNat x2) (Tc.dflt tItem)).1))) (cond (decide ((t30_0 (x8, (x9, (x10, (x11, x12)))) (List.getD x0 (Int.toNat x2) (Tc.dflt tItem)).1) < ((List.length x8 : Nat) : Int))) (cond (decide (List.length ((List.getD x0 (Int.toNat x2) (Tc.dflt tItem)).1, ((List.getD x0 (Int.toNat x2) (Tc.dflt tItem)).2.1, ((List.getD x0 (Int.toNat x2) (Tc.dflt tItem)).2.2.1, (List.getD x0 (Int.toNat x2) (Tc.dflt tItem)).2.2.2))).2.2.2 ≤ 1000)) (cond (!(sameF ((List.getD x0 (Int.toNat x2) (Tc.dflt tItem)).1, ((List.getD x0 (Int.toNat x2) (Tc.dflt tItem)).2.1, ((List.getD x0 (Int.toNat x2) (Tc.dflt tItem)).2.2.1, (List.getD x0 (Int.toNat x2) (Tc.dflt tItem)).2.2.2))) (List.getD x8 (Int.toNat (t30_0 (x8, (x9, (x10, (x11, x12)))) (List.getD x0 (Int.toNat x2) (Tc.dflt tItem)).1)) (Tc.dflt tItem)))) (cond (decide ((List.length x14 + List.length ([(List.getD x0 (Int.toNat x2) (Tc.dflt tItem)).1] : List Bytes)) * 16 ≤ 140737488355328)) (f13h2 x0 x1 (wrap .i64 (x2 + (1 : Int))) x3 x4 x5 x6 x7 x8 x9 x10 x11 x12 x13 (x14 ++ ([(List.getD x0 (Int.toNat x2) (Tc.dflt tItem)).1] : List Bytes))) none) (f13h2 x0 x1 (wrap .i64 (x2 + (1 : Int))) x3 x4 x5 x6 x7 x8 x9 x10 x11 x12 x13 x14)) none) none) none)) none) none) none) (f13h5 x8 ((List.length x8 : Nat) : Int) (0 : Int) x3 x4 x5 x6 x7 x13 ([] : List Bytes) x14)) := hdEq (by kernel_rfl)
theorem f13h5_eq (x0 : (List Item)) (x1 : Int) (x2 : Int) (x3 : (List Item)) (x4 : Int) (x5 : Int) (x6 : Int) (x7 : Int) (x8 : (List Bytes)) (x9 : (List Bytes)) (x10 : (List Bytes)) : f13h5 x0 x1 x2 x3 x4 x5 x6 x7 x8 x9 x10 = (cond (decide (x2 < x1)) (cond (decide ((0 : Int) ≤ x2)) (cond (decide (x2 < ((List.length x0 : Nat) : Int))) (cond (t30_ok (x3, (x4, (x5, (x6, x7)))) (List.getD x0 (Int.toNat x2) (Tc.dflt tItem)).1) (cond (decide ((t30_0 (x3, (x4, (x5, (x6, x7)))) (List.getD x0 (Int.toNat x2) (Tc.dflt tItem)).1) < (0 : Int))) (cond (decide ((List.length x9 + List.length ([(List.getD x0 (Int.toNat x2) (Tc.dflt tItem)).1] : List Bytes)) * 16 ≤ 140737488355328)) (f13h5 x0 x1 (wrap .i64 (x2 + (1 : Int))) x3 x4 x5 x6 x7 x8 (x9 ++ ([(List.getD x0 (Int.toNat x2) (Tc.dflt tItem)).1] : List Bytes)) x10) none) (f13h5 x0 x1 (wrap .i64 (x2 + (1 : Int))) x3 x4 x5 x6 x7 x8 x9 x10)) none) none) none) (some ⟨[.dat (.slice .str) x8, .dat (.slice .str) x9, .dat (.slice .str) x10, .dat tI (0 : Int)], []⟩)) := hdEq (by kernel_rfl)
theorem f42_run (a0 : Item) (k : Bytes) : I42.run ⟨[.dat tItem a0, .ptr 0 0], [(0, .box [.dat .str k])]⟩ = (some ⟨[.dat .bool (a0.1 == k)], [(0, .box [.dat .str k])]⟩) := (I42.run_eq _).trans (by kernel_rfl)
noncomputable def f41bh0 (x0 : (List Item)) (x1 : Int) (x2 : Int) (x3 : Bytes) : Option Fr := I41b.hd 0 (mkF 19 [(0, .dat (.slice tItem) x0), (1, .clos 42 [.ptr 0 0]), (7, .dat tI x1), (8, .dat tI x2)] [(0, .box [.dat .str x3])])
theorem f41b_run (a0 : (List Item)) (k : Bytes) : I41b.run ⟨[.dat (.slice tItem) a0, .clos 42 [.ptr 0 0]], [(0, .box [.dat .str k])]⟩ = (f41bh0 a0 ((List.length a0 : Nat) : Int) (0 : Int) k) := (I41b.run_eq _).trans (by kernel_rfl)
theorem f41bh0_eq (x0 : (List Item)) (x1 : Int) (x2 : Int) (x3 : Bytes) : f41bh0 x0 x1 x2 x3 = (cond (decide (x2 < x1)) (cond (decide ((0 : Int) ≤ x2)) (cond (decide (x2 < ((List.length x0 : Nat) : Int))) (cond (t42_0 (List.getD x0 (Int.toNat x2) (Tc.dflt tItem)) x3) (some ⟨[.dat tI x2], [(0, .box [.dat .str x3])]⟩) (f41bh0 x0 x1 (wrap .i64 (x2 + (1 : Int))) x3)) none) none) (some ⟨[.dat tI (-1 : Int)], [(0, .box [.dat .str x3])]⟩)) := hdEq (by kernel_rfl)
theorem f19_run (a0 : (List Item)) (a1 : Bytes) : I19.run ⟨[.dat (.slice tItem) a0, .dat .str a1], []⟩ = (cond (decide (List.length a0 ≤ 1000)) (some ⟨[.dat tI (idxBy (fun o => t42_0 o a1) a0 0)], []⟩) none) := (I19.run_eq _).trans (by kernel_rfl)
theorem f38_run (a0 : Int) (a1 : Int) (a2 : Int) : I38.run ⟨[.dat tI a0, .dat tI a1, .dat tI a2], []⟩ = (cond (decide (a1 ≤ a0)) (some ⟨[.dat .bool (decide (a0 ≤ a2))], []⟩) (some ⟨[.dat .bool false], []⟩)) := (I38.run_eq _).trans (by kernel_rfl)
noncomputable def f66h0 (x0 : Bytes) (x1 : Bytes) (x2 : Int) (x3 : Int) : Option Fr := I66.hd 0 (mkF 18 [(0, .dat .str x0), (1, .dat .str x1), (7, .dat tI x2), (8, .dat tI x3)] [])
theorem f66_run (a0 : Bytes) (a1 : Bytes) : I66.run ⟨[.dat .str a0, .dat .str a1], []⟩ = (f66h0 a0 a1 ((List.length a0 : Nat) : Int) (0 : Int)) := (I66.run_eq _).trans (by kernel_rfl)
theorem f66h0_eq (x0 : Bytes) (x1 : Bytes) (x2 : Int) (x3 : Int) : f66h0 x0 x1 x2 x3 = (cond (decide (x3 < x2)) (cond (decide ((0 : Int) ≤ x3)) (cond (decide (x3 < ((List.length x0 : Nat) : Int))) (cond (decide ((indexB x1 ((UInt8.toNat (List.getD x0 (Int.toNat x3) 0) : Nat) : Int)) < (0 : Int))) (some ⟨[.dat .bool false], []⟩) (f66h0 x0 x1 x2 (wrap .i64 (x3 + (1 : Int))))) none) none) (some ⟨[.dat .bool true], []⟩)) := hdEq (by kernel_rfl)
theorem f55_run (a0 : Bytes) : I55.run ⟨[.dat .str a0], []⟩ = (cond (inR ((List.length a0 : Nat) : Int) (1 : Int) (40 : Int)) (cond (decide ((0 : Int) ≤ (0 : Int))) (cond (decide ((0 : Int) ≤ (1 : Int))) (cond (decide ((1 : Int) ≤ ((List.length a0 : Nat) : Int))) (cond (decide (List.length (List.drop (Int.toNat (0 : Int)) (List.take (Int.toNat (1 : Int)) a0)) ≤ 1000000)) (cond (onlyB (List.drop (Int.toNat (0 : Int)) (List.take (Int.toNat (1 : Int)) a0)) [97, 98, 99, 100, 101, 102, 103, 104, 105, 106, 107, 108, 109, 110, 111, 112, 113, 114, 115, 116, 117, 118, 119, 120, 121, 122]) (cond (decide (List.length a0 ≤ 1000000)) (some ⟨[.dat .bool (onlyB a0 [97, 98, 99, 100, 101, 102, 103, 104, 105, 106, 107, 108, 109, 110, 111, 112, 113, 114, 115, 116, 117, 118, 119, 120, 121, 122, 48, 49, 50, 51, 52, 53, 54, 55, 56, 57, 45, 95])], []⟩) none) (some ⟨[.dat .bool false], []⟩)) none) none) none) none) (some ⟨[.dat .bool false], []⟩)) := (I55.run_eq _).trans (by kernel_rfl)
noncomputable def f56h0 (x0 : (List Bytes)) (x1 : (List Bytes)) (x2 : Int) (x3 : Int) : Option Fr := I56.hd 0 (mkF 27 [(0, .dat (.slice .str) x0), (5, .dat (.slice .str) x1), (6, .dat tI x2), (7, .dat tI x3)] [])
theorem f56_run (a0 : (List Bytes)) : I56.run ⟨[.dat (.slice .str) a0], []⟩ = (f56h0 a0 a0 ((List.length a0 : Nat) : Int) (0 : Int)) := (I56.run_eq _).trans (by kernel_rfl)
theorem f56h0_eq (x0 : (List Bytes)) (x1 : (List Bytes)) (x2 : Int) (x3 : Int) : f56h0 x0 x1 x2 x3 = (cond (decide (x3 < x2)) (cond (decide ((0 : Int) ≤ x3)) (cond (decide (x3 < ((List.length x1 : Nat) : Int))) (cond (!(keyR (List.getD x1 (Int.toNat x3) (Tc.dflt .str)))) (some ⟨[.dat tI (5 : Int)], []⟩) (cond (decide (x3 > (0 : Int))) (cond (decide ((0 : Int) ≤ (wrap .i64 (x3 - (1 : Int))))) (cond (decide ((wrap .i64 (x3 - (1 : Int))) < ((List.length x0 : Nat) : Int))) (cond (bLess (List.getD x1 (Int.toNat x3) (Tc.dflt .str)) (List.getD x0 (Int.toNat (wrap .i64 (x3 - (1 : Int)))) (Tc.dflt .str)) || (List.getD x1 (Int.toNat x3) (Tc.dflt .str)) == (List.getD x0 (Int.toNat (wrap .i64 (x3 - (1 : Int)))) (Tc.dflt .str))) (some ⟨[.dat tI (7 : Int)], []⟩) (f56h0 x0 x1 x2 (wrap .i64 (x3 + (1 : Int))))) none) none) (f56h0 x0 x1 x2 (wrap .i64 (x3 + (1 : Int)))))) none) none) (some ⟨[.dat tI (0 : Int)], []⟩)) := hdEq (by kernel_rfl)
noncomputable def f37h0 (x0 : (List Item)) (x1 : (List Item)) (x2 : Int) (x3 : Int) : Option Fr := I37.hd 0 (mkF 57 [(0, .dat (.slice tItem) x0), (9, .dat (.slice tItem) x1), (10, .dat tI x2), (11, .dat tI x3)] [])
theorem f37_run (a0 : (List Item)) : I37.run ⟨[.dat (.slice tItem) a0], []⟩ = (cond (decide (((List.length a0 : Nat) : Int) > (60 : Int))) (some ⟨[.dat tI (2 : Int)], []⟩) (f37h0 a0 a0 ((List.length a0 : Nat) : Int) (0 : Int))) := (I37.run_eq _).trans (by kernel_rfl)
theorem f37h0_eq (x0 : (List Item)) (x1 : (List Item)) (x2 : Int) (x3 : Int) : f37h0 x0 x1 x2 x3 = (cond (decide (x3 < x2)) (cond (decide ((0 : Int) ≤ x3)) (cond (decide (x3 < ((List.length x1 : Nat) : Int))) (cond (!(keyR (List.getD x1 (Int.toNat x3) (Tc.dflt tItem)).1)) (some ⟨[.dat tI (5 : Int)], []⟩) (cond (!(keyR (List.getD x1 (Int.toNat x3) (Tc.dflt tItem)).2.1)) (some ⟨[.dat tI (5 : Int)], []⟩) (cond (decide ((0 : Int) ≤ (0 : Int))) (cond (decide ((0 : Int) ≤ x3)) (cond (decide (x3 ≤ ((List.length x0 : Nat) : Int))) (cond (t19_ok (List.drop (Int.toNat (0 : Int)) (List.take (Int.toNat x3) x0)) (List.getD x1 (Int.toNat x3) (Tc.dflt tItem)).1) (cond (decide ((t19_0 (List.drop (Int.toNat (0 : Int)) (List.take (Int.toNat x3) x0)) (List.getD x1 (Int.toNat x3) (Tc.dflt tItem)).1) ≥ (0 : Int))) (some ⟨[.dat tI (6 : Int)], []⟩) (cond (!(inR (List.getD x1 (Int.toNat x3) (Tc.dflt tItem)).2.2.1 (1 : Int) (86400000 : Int))) (some ⟨[.dat tI (1 : Int)], []⟩) (cond (((List.length (List.getD x1 (Int.toNat x3) (Tc.dflt tItem)).2.2.2 : Nat) : Int) == (0 : Int)) (some ⟨[.dat tI (8 : Int)], []⟩) (cond (decide (((List.length (List.getD x1 (Int.toNat x3) (Tc.dflt tItem)).2.2.2 : Nat) : Int) > (12 : Int))) (some ⟨[.dat tI (2 : Int)], []⟩) (cond (decide (List.length (List.getD x1 (Int.toNat x3) (Tc.dflt tItem)).2.2.2 ≤ 1000)) (cond ((risingGo keyR none (List.getD x1 (Int.toNat x3) (Tc.dflt tItem)).2.2.2) != (0 : Int)) (some ⟨[.dat tI (risingGo keyR none (List.getD x1 (Int.toNat x3) (Tc.dflt tItem)).2.2.2)], []⟩) (f37h0 x0 x1 x2 (wrap .i64 (x3 + (1 : Int))))) none))))) none) none) none) none))) none) none) (some ⟨[.dat tI (0 : Int)], []⟩)) := hdEq (by kernel_rfl)
theorem f14_run (a0 : Prgm) : I14.run ⟨[.dat tPrgm a0], []⟩ = (cond ((checkItems keyR a0.1) != (0 : Int)) (some ⟨[.dat tI (checkItems keyR a0.1)], []⟩) (cond (!(inR a0.2.1 (0 : Int) (86400000 : Int))) (some ⟨[.dat tI (1 : Int)], []⟩) (cond (!(inR a0.2.2.1 (0 : Int) (86400000 : Int))) (some ⟨[.dat tI (1 : Int)], []⟩) (cond (!(inR a0.2.2.2.1 (0 : Int) (86400000 : Int))) (some ⟨[.dat tI (1 : Int)], []⟩) (cond (!(inR a0.2.2.2.2 (-1 : Int) (if (-1 : Int) < (wrap .i64 (((List.length a0.1 : Nat) : Int) - (2 : Int))) then (wrap .i64 (((List.length a0.1 : Nat) : Int) - (2 : Int))) else (-1 : Int)))) (some ⟨[.dat tI (1 : Int)], []⟩) (some ⟨[.dat tI (0 : Int)], []⟩)))))) := (I14.run_eq _).trans (by kernel_rfl)
theorem f39_run (a0 : Int) : I39.run ⟨[.dat tI a0], []⟩ = (some ⟨[.dat .bool (inR a0 (0 : Int) (345686399999 : Int))], []⟩) := (I39.run_eq _).trans (by kernel_rfl)
theorem f57_run (a0 : Prgm) (a1 : Int) : I57.run ⟨[.dat tPrgm a0, .dat tI a1], []⟩ = (cond (a1 == a0.2.2.2.2) (some ⟨[.dat tI a0.2.2.2.1], []⟩) (cond (decide ((0 : Int) ≤ a1)) (cond (decide (a1 < ((List.length a0.1 : Nat) : Int))) (cond (decide ((0 : Int) ≤ (wrap .i64 (a1 + (1 : Int))))) (cond (decide ((wrap .i64 (a1 + (1 : Int))) < ((List.length a0.1 : Nat) : Int))) (cond (!((List.getD a0.1 (Int.toNat a1) (Tc.dflt tItem)).2.1 == (List.getD a0.1 (Int.toNat (wrap .i64 (a1 + (1 : Int)))) (Tc.dflt tItem)).2.1)) (some ⟨[.dat tI a0.2.1], []⟩) (some ⟨[.dat tI a0.2.2.1], []⟩)) none) none) none) none)) := (I57.run_eq _).trans (by kernel_rfl)
noncomputable def f43h0 (x0 : Int) (x1 : (List Item)) (x2 : Int) (x3 : Int) (x4 : (List Item)) (x5 : Int) (x6 : Int) (x7 : Int) (x8 : Int) (x9 : (List Timed)) : Option Fr := I43.hd 0 (mkF 45 [(1, .dat tI x0), (2, .ptr 500 0), (5, .slc 501), (9, .dat (.slice tItem) x1), (10, .dat tI x2), (11, .dat tI x3)] [(500, .box [.dat (.slice tItem) x4, .dat tI x5, .dat tI x6, .dat tI x7, .dat tI x8]), (501, .arr tTimed x9)])
theorem f43_run (a0 : Prgm) (a1 : Int) : I43.run ⟨[.dat tPrgm a0, .dat tI a1], []⟩ = (f43h0 a1 a0.1 ((List.length a0.1 : Nat) : Int) (0 : Int) a0.1 a0.2.1 a0.2.2.1 a0.2.2.2.1 a0.2.2.2.2 ([] : List Timed)) := (I43.run_eq _).trans (by kernel_rfl)
theorem f43h0_eq (x0 : Int) (x1 : (List Item)) (x2 : Int) (x3 : Int) (x4 : (List Item)) (x5 : Int) (x6 : Int) (x7 : Int) (x8 : Int) (x9 : (List Timed)) : f43h0 x0 x1 x2 x3 x4 x5 x6 x7 x8 x9 = (cond (decide (x3 < x2)) (cond (decide ((0 : Int) ≤ x3)) (cond (decide (x3 < ((List.length x1 : Nat) : Int))) (cond (decide ((List.length x9 + List.length ([((List.getD x1 (Int.toNat x3) (Tc.dflt tItem)).1, (x0, (wrap .i64 (x0 + (List.getD x1 (Int.toNat x3) (Tc.dflt tItem)).2.2.1))))] : List Timed)) * 32 ≤ 140737488355328)) (cond (decide ((wrap .i64 (x3 + (1 : Int))) < ((List.length x4 : Nat) : Int))) (cond (decide (0 ≤ x3) && decide (x3 + 1 < (List.length (x4, (x5, (x6, (x7, x8)))).1 : Int)) && decide (List.length (x4, (x5, (x6, (x7, x8)))).1 ≤ 1000)) (f43h0 (wrap .i64 ((wrap .i64 (x0 + (List.getD x1 (Int.toNat x3) (Tc.dflt tItem)).2.2.1)) + (behindF (x4, (x5, (x6, (x7, x8)))) x3))) x1 x2 (wrap .i64 (x3 + (1 : Int))) x4 x5 x6 x7 x8 (x9 ++ ([((List.getD x1 (Int.toNat x3) (Tc.dflt tItem)).1, (x0, (wrap .i64 (x0 + (List.getD x1 (Int.toNat x3) (Tc.dflt tItem)).2.2.1))))] : List Timed))) none) (f43h0 (wrap .i64 (x0 + (List.getD x1 (Int.toNat x3) (Tc.dflt tItem)).2.2.1)) x1 x2 (wrap .i64 (x3 + (1 : Int))) x4 x5 x6 x7 x8 (x9 ++ ([((List.getD x1 (Int.toNat x3) (Tc.dflt tItem)).1, (x0, (wrap .i64 (x0 + (List.getD x1 (Int.toNat x3) (Tc.dflt tItem)).2.2.1))))] : List Timed)))) none) none) none) (some ⟨[.slc 0], [(0, .arr tTimed x9)]⟩)) := hdEq (by kernel_rfl)
theorem f40_run (a0 : Prgm) : I40.run ⟨[.dat tPrgm a0], []⟩ = (cond (decide (List.length (a0.1, (a0.2.1, (a0.2.2.1, (a0.2.2.2.1, a0.2.2.2.2)))).1 ≤ 1000)) (cond (((List.length (timGo (a0.1, (a0.2.1, (a0.2.2.1, (a0.2.2.2.1, a0.2.2.2.2)))) 0 (0 : Int) (a0.1, (a0.2.1, (a0.2.2.1, (a0.2.2.2.1, a0.2.2.2.2)))).1) : Nat) : Int) == (0 : Int)) (some ⟨[.dat tI (0 : Int)], []⟩) (cond (decide ((0 : Int) ≤ (wrap .i64 (((List.length (timGo (a0.1, (a0.2.1, (a0.2.2.1, (a0.2.2.2.1, a0.2.2.2.2)))) 0 (0 : Int) (a0.1, (a0.2.1, (a0.2.2.1, (a0.2.2.2.1, a0.2.2.2.2)))).1) : Nat) : Int) - (1 : Int))))) (cond (decide ((wrap .i64 (((List.length (timGo (a0.1, (a0.2.1, (a0.2.2.1, (a0.2.2.2.1, a0.2.2.2.2)))) 0 (0 : Int) (a0.1, (a0.2.1, (a0.2.2.1, (a0.2.2.2.1, a0.2.2.2.2)))).1) : Nat) : Int) - (1 : Int))) < ((List.length (timGo (a0.1, (a0.2.1, (a0.2.2.1, (a0.2.2.2.1, a0.2.2.2.2)))) 0 (0 : Int) (a0.1, (a0.2.1, (a0.2.2.1, (a0.2.2.2.1, a0.2.2.2.2)))).1) : Nat) : Int))) (cond (decide ((Int.toNat (wrap .i64 (((List.length (timGo (a0.1, (a0.2.1, (a0.2.2.1, (a0.2.2.2.1, a0.2.2.2.2)))) 0 (0 : Int) (a0.1, (a0.2.1, (a0.2.2.1, (a0.2.2.2.1, a0.2.2.2.2)))).1) : Nat) : Int) - (1 : Int)))) < List.length (timGo (a0.1, (a0.2.1, (a0.2.2.1, (a0.2.2.2.1, a0.2.2.2.2)))) 0 (0 : Int) (a0.1, (a0.2.1, (a0.2.2.1, (a0.2.2.2.1, a0.2.2.2.2)))).1))) (cond (decide ((Int.toNat (wrap .i64 (((List.length (timGo (a0.1, (a0.2.1, (a0.2.2.1, (a0.2.2.2.1, a0.2.2.2.2)))) 0 (0 : Int) (a0.1, (a0.2.1, (a0.2.2.1, (a0.2.2.2.1, a0.2.2.2.2)))).1) : Nat) : Int) - (1 : Int)))) < List.length (timGo (a0.1, (a0.2.1, (a0.2.2.1, (a0.2.2.2.1, a0.2.2.2.2)))) 0 (0 : Int) (a0.1, (a0.2.1, (a0.2.2.1, (a0.2.2.2.1, a0.2.2.2.2)))).1))) (cond (decide ((Int.toNat (wrap .i64 (((List.length (timGo (a0.1, (a0.2.1, (a0.2.2.1, (a0.2.2.2.1, a0.2.2.2.2)))) 0 (0 : Int) (a0.1, (a0.2.1, (a0.2.2.1, (a0.2.2.2.1, a0.2.2.2.2)))).1) : Nat) : Int) - (1 : Int)))) < List.length (timGo (a0.1, (a0.2.1, (a0.2.2.1, (a0.2.2.2.1, a0.2.2.2.2)))) 0 (0 : Int) (a0.1, (a0.2.1, (a0.2.2.1, (a0.2.2.2.1, a0.2.2.2.2)))).1))) (some ⟨[.dat tI (List.getD (timGo (a0.1, (a0.2.1, (a0.2.2.1, (a0.2.2.2.1, a0.2.2.2.2)))) 0 (0 : Int) (a0.1, (a0.2.1, (a0.2.2.1, (a0.2.2.2.1, a0.2.2.2.2)))).1) (Int.toNat (wrap .i64 (((List.length (timGo (a0.1, (a0.2.1, (a0.2.2.1, (a0.2.2.2.1, a0.2.2.2.2)))) 0 (0 : Int) (a0.1, (a0.2.1, (a0.2.2.1, (a0.2.2.2.1, a0.2.2.2.2)))).1) : Nat) : Int) - (1 : Int)))) (Tc.dflt tTimed)).2.2], []⟩) none) none) none) none) none)) none) := (I40.run_eq _).trans (by kernel_rfl)
theorem f15_run (a0 : Prgm) (a1 : Int) : I15.run ⟨[.dat tPrgm a0, .dat tI a1], []⟩ = (cond (!(t39_0 a1)) (some ⟨[.dat tI (1 : Int)], []⟩) (cond (decide (List.length (a0.1, (a0.2.1, (a0.2.2.1, (a0.2.2.2.1, a0.2.2.2.2)))).1 ≤ 1000)) (cond (decide ((wrap .i64 (a1 + (longR (a0.1, (a0.2.1, (a0.2.2.1, (a0.2.2.2.1, a0.2.2.2.2))))))) > (345686400000 : Int))) (some ⟨[.dat tI (1 : Int)], []⟩) (some ⟨[.dat tI (0 : Int)], []⟩)) none)) := (I15.run_eq _).trans (by kernel_rfl)
noncomputable def f16h0 (x0 : (List Int)) (x1 : Int) (x2 : Int) : Option Fr := I16.hd 0 (mkF 15 [(5, .dat (.slice tI) x0), (6, .dat tI x1), (7, .dat tI x2)] [])
theorem f16_run (a0 : (List Int)) : I16.run ⟨[.dat (.slice tI) a0], []⟩ = (f16h0 a0 ((List.length a0 : Nat) : Int) (0 : Int)) := (I16.run_eq _).trans (by kernel_rfl)
theorem f16h0_eq (x0 : (List Int)) (x1 : Int) (x2 : Int) : f16h0 x0 x1 x2 = (cond (decide (x2 < x1)) (cond (decide ((0 : Int) ≤ x2)) (cond (decide (x2 < ((List.length x0 : Nat) : Int))) (cond ((List.getD x0 (Int.toNat x2) (Tc.dflt tI)) != (0 : Int)) (some ⟨[.dat tI (List.getD x0 (Int.toNat x2) (Tc.dflt tI))], []⟩) (f16h0 x0 x1 (wrap .i64 (x2 + (1 : Int))))) none) none) (some ⟨[.dat tI (0 : Int)], []⟩)) := hdEq (by kernel_rfl)
theorem f17_run (a0 : Int) : I17.run ⟨[.dat tI a0], []⟩ = (cond (!(t39_0 a0)) (some ⟨[.dat tI (1 : Int)], []⟩) (some ⟨[.dat tI (0 : Int)], []⟩)) := (I17.run_eq _).trans (by kernel_rfl)
theorem f18_run (a0 : Bool) (a1 : Int) : I18.run ⟨[.dat .bool a0, .dat tI a1], []⟩ = (cond a0 (some ⟨[.dat tI a1], []⟩) (some ⟨[.dat tI (0 : Int)], []⟩)) := (I18.run_eq _).trans (by kernel_rfl)
theorem f20_run (a0 : Prgm) (a1 : Int) (a2 : Bytes) (a3 : Int) : I20.run ⟨[.dat tPrgm a0, .dat tI a1, .dat .str a2, .dat tI a3], []⟩ = (cond (decide (List.length (a0.1, (a0.2.1, (a0.2.2.1, (a0.2.2.2.1, a0.2.2.2.2)))).1 ≤ 1000)) (cond (t19_ok a0.1 a2) (cond (decide ((0 : Int) ≤ (t19_0 a0.1 a2))) (cond (decide ((t19_0 a0.1 a2) < ((List.length (timGo (a0.1, (a0.2.1, (a0.2.2.1, (a0.2.2.2.1, a0.2.2.2.2)))) 0 a1 (a0.1, (a0.2.1, (a0.2.2.1, (a0.2.2.2.1, a0.2.2.2.2)))).1) : Nat) : Int))) (cond (decide ((Int.toNat (t19_0 a0.1 a2)) < List.length (timGo (a0.1, (a0.2.1, (a0.2.2.1, (a0.2.2.2.1, a0.2.2.2.2)))) 0 a1 (a0.1, (a0.2.1, (a0.2.2.1, (a0.2.2.2.1, a0.2.2.2.2)))).1))) (cond (decide ((Int.toNat (t19_0 a0.1 a2)) < List.length (timGo (a0.1, (a0.2.1, (a0.2.2.1, (a0.2.2.2.1, a0.2.2.2.2)))) 0 a1 (a0.1, (a0.2.1, (a0.2.2.1, (a0.2.2.2.1, a0.2.2.2.2)))).1))) (cond (decide ((Int.toNat (t19_0 a0.1 a2)) < List.length (timGo (a0.1, (a0.2.1, (a0.2.2.1, (a0.2.2.2.1, a0.2.2.2.2)))) 0 a1 (a0.1, (a0.2.1, (a0.2.2.1, (a0.2.2.2.1, a0.2.2.2.2)))).1))) (some ⟨[.dat tI (wrap .i64 (a3 - (List.getD (timGo (a0.1, (a0.2.1, (a0.2.2.1, (a0.2.2.2.1, a0.2.2.2.2)))) 0 a1 (a0.1, (a0.2.1, (a0.2.2.1, (a0.2.2.2.1, a0.2.2.2.2)))).1) (Int.toNat (t19_0 a0.1 a2)) (Tc.dflt tTimed)).2.1))], []⟩) none) none) none) none) none) none) none) := (I20.run_eq _).trans (by kernel_rfl)
noncomputable def f60h0 (x0 : (List Bytes)) (x1 : Bytes) (x2 : Int) (x3 : Int) : Option Fr := I60.hd 0 (mkF 19 [(0, .dat (.slice .str) x0), (1, .dat .str x1), (7, .dat tI x2), (8, .dat tI x3)] [])
theorem f60_run (a0 : (List Bytes)) (a1 : Bytes) : I60.run ⟨[.dat (.slice .str) a0, .dat .str a1], []⟩ = (f60h0 a0 a1 ((List.length a0 : Nat) : Int) (0 : Int)) := (I60.run_eq _).trans (by kernel_rfl)
theorem f60h0_eq (x0 : (List Bytes)) (x1 : Bytes) (x2 : Int) (x3 : Int) : f60h0 x0 x1 x2 x3 = (cond (decide (x3 < x2)) (cond (decide ((0 : Int) ≤ x3)) (cond (decide (x3 < ((List.length x0 : Nat) : Int))) (cond (x1 == (List.getD x0 (Int.toNat x3) (Tc.dflt .str))) (some ⟨[.dat tI x3], []⟩) (f60h0 x0 x1 x2 (wrap .i64 (x3 + (1 : Int))))) none) none) (some ⟨[.dat tI (-1 : Int)], []⟩)) := hdEq (by kernel_rfl)
theorem f46_run (a0 : (List Bytes)) (a1 : Bytes) : I46.run ⟨[.dat (.slice .str) a0, .dat .str a1], []⟩ = (cond (decide (List.length a0 ≤ 1000000)) (some ⟨[.dat .bool (decide ((idxS a1 a0 0) ≥ (0 : Int)))], []⟩) none) := (I46.run_eq _).trans (by kernel_rfl)
theorem f45_run (a0 : Bytes) (bef : (List Bytes)) : I45.run ⟨[.dat .str a0, .ptr 0 0], [(0, .box [.dat (.slice .str) bef])]⟩ = (cond (decide (List.length bef ≤ 1000000)) (some ⟨[.dat .bool (!(hasS bef a0))], [(0, .box [.dat (.slice .str) bef])]⟩) none) := (I45.run_eq _).trans (by kernel_rfl)
noncomputable def f53ah0 (x0 : (List Bytes)) (x1 : Int) (x2 : Int) (x3 : (List Bytes)) : Option Fr := I53a.hd 0 (mkF 19 [(0, .dat (.slice .str) x0), (1, .clos 45 [.ptr 0 0]), (7, .dat tI x1), (8, .dat tI x2)] [(0, .box [.dat (.slice .str) x3])])
theorem f53a_run (a0 : (List Bytes)) (bef : (List Bytes)) : I53a.run ⟨[.dat (.slice .str) a0, .clos 45 [.ptr 0 0]], [(0, .box [.dat (.slice .str) bef])]⟩ = (f53ah0 a0 ((List.length a0 : Nat) : Int) (0 : Int) bef) := (I53a.run_eq _).trans (by kernel_rfl)
theorem f53ah0_eq (x0 : (List Bytes)) (x1 : Int) (x2 : Int) (x3 : (List Bytes)) : f53ah0 x0 x1 x2 x3 = (cond (decide (x2 < x1)) (cond (decide ((0 : Int) ≤ x2)) (cond (decide (x2 < ((List.length x0 : Nat) : Int))) (cond (t45_ok (List.getD x0 (Int.toNat x2) (Tc.dflt .str)) x3) (cond (t45_0 (List.getD x0 (Int.toNat x2) (Tc.dflt .str)) x3) (some ⟨[.dat tI x2], [(0, .box [.dat (.slice .str) x3])]⟩) (f53ah0 x0 x1 (wrap .i64 (x2 + (1 : Int))) x3)) none) none) none) (some ⟨[.dat tI (-1 : Int)], [(0, .box [.dat (.slice .str) x3])]⟩)) := hdEq (by kernel_rfl)
theorem f33a_run (a0 : (List Bytes)) (bef : (List Bytes)) : I33a.run ⟨[.dat (.slice .str) a0, .clos 45 [.ptr 0 0]], [(0, .box [.dat (.slice .str) bef])]⟩ = (cond (decide (List.length a0 ≤ 1000) && decide (List.length bef ≤ 1000000)) (some ⟨[.dat .bool (decide ((idxBy (fun o => t45_0 o bef) a0 0) ≥ (0 : Int)))], [(0, .box [.dat (.slice .str) (bef)])]⟩) none) := (I33a.run_eq _).trans (by kernel_rfl)
theorem f95_run (a0 : Bytes) : I95.run ⟨[.dat .str a0], []⟩ = (some ⟨[.dat .bool (!(a0 == a0))], []⟩) := (I95.run_eq _).trans (by kernel_rfl)
theorem f77_run (a0 : Bytes) (a1 : Bytes) : I77.run ⟨[.dat .str a0, .dat .str a1], []⟩ = (cond (t95_0 a0) (cond (!(t95_0 a1)) (some ⟨[.dat .bool true], []⟩) (some ⟨[.dat .bool (bLess a0 a1)], []⟩)) (some ⟨[.dat .bool (bLess a0 a1)], []⟩)) := (I77.run_eq _).trans (by kernel_rfl)
noncomputable def f71h0 (x0 : Int) (x1 : Int) (x2 : Int) (x3 : (List Bytes)) : Option Fr := I71.hd 0 (mkF 49 [(0, .slc 0), (1, .dat tI x0), (2, .dat tI x1), (6, .dat tI x2)] [(0, .arr .str x3)])
noncomputable def f71h2 (x0 : Int) (x1 : Int) (x2 : Int) (x3 : Int) (x4 : (List Bytes)) : Option Fr := I71.hd 2 (mkF 49 [(0, .slc 0), (1, .dat tI x0), (2, .dat tI x1), (6, .dat tI x2), (7, .dat tI x3)] [(0, .arr .str x4)])
theorem f71_run (a : Int) (b : Int) (a0 : (List Bytes)) : I71.run ⟨[.slc 0, .dat tI a, .dat tI b], [(0, .arr .str a0)]⟩ = (f71h0 a b (wrap .i64 (a + (1 : Int))) a0) := (I71.run_eq _).trans (by kernel_rfl)
theorem f71h0_eq (x0 : Int) (x1 : Int) (x2 : Int) (x3 : (List Bytes)) : f71h0 x0 x1 x2 x3 = (cond (decide (x2 < x1)) (f71h2 x0 x1 x2 x2 x3) (some ⟨[], [(0, .arr .str x3)]⟩)) := hdEq (by kernel_rfl)
theorem f71h2_eq (x0 : Int) (x1 : Int) (x2 : Int) (x3 : Int) (x4 : (List Bytes)) : f71h2 x0 x1 x2 x3 x4 = (cond (decide (x3 > x0)) (cond (decide ((0 : Int) ≤ x3)) (cond (decide (x3 < ((List.length x4 : Nat) : Int))) (cond (decide ((Int.toNat x3) < List.length x4)) (cond (decide ((0 : Int) ≤ (wrap .i64 (x3 - (1 : Int))))) (cond (decide ((wrap .i64 (x3 - (1 : Int))) < ((List.length x4 : Nat) : Int))) (cond (decide ((Int.toNat (wrap .i64 (x3 - (1 : Int)))) < List.length x4)) (cond (t77_0 (List.getD x4 (Int.toNat x3) (Tc.dflt .str)) (List.getD x4 (Int.toNat (wrap .i64 (x3 - (1 : Int)))) (Tc.dflt .str))) (cond (decide ((0 : Int) ≤ (wrap .i64 (x3 - (1 : Int))))) (cond (decide ((wrap .i64 (x3 - (1 : Int))) < ((List.length x4 : Nat) : Int))) (cond (decide ((Int.toNat (wrap .i64 (x3 - (1 : Int)))) < List.length x4)) (cond (decide ((0 : Int) ≤ x3)) (cond (decide (x3 < ((List.length x4 : Nat) : Int))) (cond (decide ((Int.toNat x3) < List.length x4)) (cond (decide ((0 : Int) ≤ x3)) (cond (decide (x3 < ((List.length x4 : Nat) : Int))) (cond (decide ((Int.toNat x3) < List.length x4)) (cond (decide ((0 : Int) ≤ (wrap .i64 (x3 - (1 : Int))))) (cond (decide ((wrap .i64 (x3 - (1 : Int))) < ((List.length (List.set x4 (Int.toNat x3) (List.getD x4 (Int.toNat (wrap .i64 (x3 - (1 : Int)))) (Tc.dflt .str))) : Nat) : Int))) (cond (decide ((Int.toNat (wrap .i64 (x3 - (1 : Int)))) < List.length (List.set x4 (Int.toNat x3) (List.getD x4 (Int.toNat (wrap .i64 (x3 - (1 : Int)))) (Tc.dflt .str))))) (f71h2 x0 x1 x2 (wrap .i64 (x3 - (1 : Int))) (List.set (List.set x4 (Int.toNat x3) (List.getD x4 (Int.toNat (wrap .i64 (x3 - (1 : Int)))) (Tc.dflt .str))) (Int.toNat (wrap .i64 (x3 - (1 : Int)))) (List.getD x4 (Int.toNat x3) (Tc.dflt .str)))) none) none) none) none) none) none) none) none) none) none) none) none) (f71h0 x0 x1 (wrap .i64 (x2 + (1 : Int))) x4)) none) none) none) none) none) none) (f71h0 x0 x1 (wrap .i64 (x2 + (1 : Int))) x4)) := hdEq (by kernel_rfl)
noncomputable def f67h0 (x0 : Int) (x1 : Int) (x2 : Int) (x3 : Bool) (x4 : Bool) (x5 : (List Bytes)) : Option Fr := I67.hd 0 (mkF 134 [(0, .slc 0), (1, .dat tI x0), (2, .dat tI x1), (3, .dat tI x2), (8, .dat .bool x3), (9, .dat .bool x4)] [(0, .arr .str x5)])
theorem f67_run (a : Int) (b : Int) (lim : Int) (a0 : (List Bytes)) : I67.run ⟨[.slc 0, .dat tI a, .dat tI b, .dat tI lim], [(0, .arr .str a0)]⟩ = (f67h0 a b lim true true a0) := (I67.run_eq _).trans (by kernel_rfl)
theorem f67h0_eq (x0 : Int) (x1 : Int) (x2 : Int) (x3 : Bool) (x4 : Bool) (x5 : (List Bytes)) : f67h0 x0 x1 x2 x3 x4 x5 = (cond (decide ((wrap .i64 (x1 - x0)) ≤ (12 : Int))) (cond (decide (List.length x5 = 0) && x0 == 0 && x1 == 0) (some ⟨[], [(0, .arr .str (x5))]⟩) none) (cond (x2 == (0 : Int)) none (cond (!x3) none none))) := hdEq (by kernel_rfl)
theorem f80_run (a0 : Int) : I80.run ⟨[.dat (.int .u32) a0], []⟩ = (cond (decide (a0 ≥ (65536 : Int))) (cond (decide ((16 : Int) < 0)) none (cond (decide ((Int.fdiv a0 (2 ^ (min (Int.toNat (16 : Int)) (IntKind.bits .u32)))) ≥ (256 : Int))) (cond (decide ((8 : Int) < 0)) none (cond (decide ((0 : Int) ≤ (wrap .u8 (Int.fdiv (Int.fdiv a0 (2 ^ (min (Int.toNat (16 : Int)) (IntKind.bits .u32)))) (2 ^ (min (Int.toNat (8 : Int)) (IntKind.bits .u32))))))) (cond (decide ((wrap .u8 (Int.fdiv (Int.fdiv a0 (2 ^ (min (Int.toNat (16 : Int)) (IntKind.bits .u32)))) (2 ^ (min (Int.toNat (8 : Int)) (IntKind.bits .u32))))) < ((List.length [0, 1, 2, 2, 3, 3, 3, 3, 4, 4, 4, 4, 4, 4, 4, 4, 5, 5, 5, 5, 5, 5, 5, 5, 5, 5, 5, 5, 5, 5, 5, 5, 6, 6, 6, 6, 6, 6, 6, 6, 6, 6, 6, 6, 6, 6, 6, 6, 6, 6, 6, 6, 6, 6, 6, 6, 6, 6, 6, 6, 6, 6, 6, 6, 7, 7, 7, 7, 7, 7, 7, 7, 7, 7, 7, 7, 7, 7, 7, 7, 7, 7, 7, 7, 7, 7, 7, 7, 7, 7, 7, 7, 7, 7, 7, 7, 7, 7, 7, 7, 7, 7, 7, 7, 7, 7, 7, 7, 7, 7, 7, 7, 7, 7, 7, 7, 7, 7, 7, 7, 7, 7, 7, 7, 7, 7, 7, 7, 8, 8, 8, 8, 8, 8, 8, 8, 8, 8, 8, 8, 8, 8, 8, 8, 8, 8, 8, 8, 8, 8, 8, 8, 8, 8, 8, 8, 8, 8, 8, 8, 8, 8, 8, 8, 8, 8, 8, 8, 8, 8, 8, 8, 8, 8, 8, 8, 8, 8, 8, 8, 8, 8, 8, 8, 8, 8, 8, 8, 8, 8, 8, 8, 8, 8, 8, 8, 8, 8, 8, 8, 8, 8, 8, 8, 8, 8, 8, 8, 8, 8, 8, 8, 8, 8, 8, 8, 8, 8, 8, 8, 8, 8, 8, 8, 8, 8, 8, 8, 8, 8, 8, 8, 8, 8, 8, 8, 8, 8, 8, 8, 8, 8, 8, 8, 8, 8, 8, 8, 8, 8, 8, 8, 8, 8, 8, 8] : Nat) : Int))) (some ⟨[.dat tI (wrap .i64 ((wrap .i64 ((16 : Int) + (8 : Int))) + (wrap .i64 ((UInt8.toNat (List.getD [0, 1, 2, 2, 3, 3, 3, 3, 4, 4, 4, 4, 4, 4, 4, 4, 5, 5, 5, 5, 5, 5, 5, 5, 5, 5, 5, 5, 5, 5, 5, 5, 6, 6, 6, 6, 6, 6, 6, 6, 6, 6, 6, 6, 6, 6, 6, 6, 6, 6, 6, 6, 6, 6, 6, 6, 6, 6, 6, 6, 6, 6, 6, 6, 7, 7, 7, 7, 7, 7, 7, 7, 7, 7, 7, 7, 7, 7, 7, 7, 7, 7, 7, 7, 7, 7, 7, 7, 7, 7, 7, 7, 7, 7, 7, 7, 7, 7, 7, 7, 7, 7, 7, 7, 7, 7, 7, 7, 7, 7, 7, 7, 7, 7, 7, 7, 7, 7, 7, 7, 7, 7, 7, 7, 7, 7, 7, 7, 8, 8, 8, 8, 8, 8, 8, 8, 8, 8, 8, 8, 8, 8, 8, 8, 8, 8, 8, 8, 8, 8, 8, 8, 8, 8, 8, 8, 8, 8, 8, 8, 8, 8, 8, 8, 8, 8, 8, 8, 8, 8, 8, 8, 8, 8, 8, 8, 8, 8, 8, 8, 8, 8, 8, 8, 8, 8, 8, 8, 8, 8, 8, 8, 8, 8, 8, 8, 8, 8, 8, 8, 8, 8, 8, 8, 8, 8, 8, 8, 8, 8, 8, 8, 8, 8, 8, 8, 8, 8, 8, 8, 8, 8, 8, 8, 8, 8, 8, 8, 8, 8, 8, 8, 8, 8, 8, 8, 8, 8, 8, 8, 8, 8, 8, 8, 8, 8, 8, 8, 8, 8, 8, 8, 8, 8, 8, 8] (Int.toNat (wrap .u8 (Int.fdiv (Int.fdiv a0 (2 ^ (min (Int.toNat (16 : Int)) (IntKind.bits .u32)))) (2 ^ (min (Int.toNat (8 : Int)) (IntKind.bits .u32)))))) 0) : Nat) : Int))))], []⟩) none) none)) (cond (decide ((0 : Int) ≤ (wrap .u8 (Int.fdiv a0 (2 ^ (min (Int.toNat (16 : Int)) (IntKind.bits .u32))))))) (cond (decide ((wrap .u8 (Int.fdiv a0 (2 ^ (min (Int.toNat (16 : Int)) (IntKind.bits .u32))))) < ((List.length [0, 1, 2, 2, 3, 3, 3, 3, 4, 4, 4, 4, 4, 4, 4, 4, 5, 5, 5, 5, 5, 5, 5, 5, 5, 5, 5, 5, 5, 5, 5, 5, 6, 6, 6, 6, 6, 6, 6, 6, 6, 6, 6, 6, 6, 6, 6, 6, 6, 6, 6, 6, 6, 6, 6, 6, 6, 6, 6, 6, 6, 6, 6, 6, 7, 7, 7, 7, 7, 7, 7, 7, 7, 7, 7, 7, 7, 7, 7, 7, 7, 7, 7, 7, 7, 7, 7, 7, 7, 7, 7, 7, 7, 7, 7, 7, 7, 7, 7, 7, 7, 7, 7, 7, 7, 7, 7, 7, 7, 7, 7, 7, 7, 7, 7, 7, 7, 7, 7, 7, 7, 7, 7, 7, 7, 7, 7, 7, 8, 8, 8, 8, 8, 8, 8, 8, 8, 8, 8, 8, 8, 8, 8, 8, 8, 8, 8, 8, 8, 8, 8, 8, 8, 8, 8, 8, 8, 8, 8, 8, 8, 8, 8, 8, 8, 8, 8, 8, 8, 8, 8, 8, 8, 8, 8, 8, 8, 8, 8, 8, 8, 8, 8, 8, 8, 8, 8, 8, 8, 8, 8, 8, 8, 8, 8, 8, 8, 8, 8, 8, 8, 8, 8, 8, 8, 8, 8, 8, 8, 8, 8, 8, 8, 8, 8, 8, 8, 8, 8, 8, 8, 8, 8, 8, 8, 8, 8, 8, 8, 8, 8, 8, 8, 8, 8, 8, 8, 8, 8, 8, 8, 8, 8, 8, 8, 8, 8, 8, 8, 8, 8, 8, 8, 8, 8, 8] : Nat) : Int))) (some ⟨[.dat tI (wrap .i64 ((16 : Int) + (wrap .i64 ((UInt8.toNat (List.getD [0, 1, 2, 2, 3, 3, 3, 3, 4, 4, 4, 4, 4, 4, 4, 4, 5, 5, 5, 5, 5, 5, 5, 5, 5, 5, 5, 5, 5, 5, 5, 5, 6, 6, 6, 6, 6, 6, 6, 6, 6, 6, 6, 6, 6, 6, 6, 6, 6, 6, 6, 6, 6, 6, 6, 6, 6, 6, 6, 6, 6, 6, 6, 6, 7, 7, 7, 7, 7, 7, 7, 7, 7, 7, 7, 7, 7, 7, 7, 7, 7, 7, 7, 7, 7, 7, 7, 7, 7, 7, 7, 7, 7, 7, 7, 7, 7, 7, 7, 7, 7, 7, 7, 7, 7, 7, 7, 7, 7, 7, 7, 7, 7, 7, 7, 7, 7, 7, 7, 7, 7, 7, 7, 7, 7, 7, 7, 7, 8, 8, 8, 8, 8, 8, 8, 8, 8, 8, 8, 8, 8, 8, 8, 8, 8, 8, 8, 8, 8, 8, 8, 8, 8, 8, 8, 8, 8, 8, 8, 8, 8, 8, 8, 8, 8, 8, 8, 8, 8, 8, 8, 8, 8, 8, 8, 8, 8, 8, 8, 8, 8, 8, 8, 8, 8, 8, 8, 8, 8, 8, 8, 8, 8, 8, 8, 8, 8, 8, 8, 8, 8, 8, 8, 8, 8, 8, 8, 8, 8, 8, 8, 8, 8, 8, 8, 8, 8, 8, 8, 8, 8, 8, 8, 8, 8, 8, 8, 8, 8, 8, 8, 8, 8, 8, 8, 8, 8, 8, 8, 8, 8, 8, 8, 8, 8, 8, 8, 8, 8, 8, 8, 8, 8, 8, 8, 8] (Int.toNat (wrap .u8 (Int.fdiv a0 (2 ^ (min (Int.toNat (16 : Int)) (IntKind.bits .u32)))))) 0) : Nat) : Int))))], []⟩) none) none))) (cond (decide (a0 ≥ (256 : Int))) (cond (decide ((8 : Int) < 0)) none (cond (decide ((0 : Int) ≤ (wrap .u8 (Int.fdiv a0 (2 ^ (min (Int.toNat (8 : Int)) (IntKind.bits .u32))))))) (cond (decide ((wrap .u8 (Int.fdiv a0 (2 ^ (min (Int.toNat (8 : Int)) (IntKind.bits .u32))))) < ((List.length [0, 1, 2, 2, 3, 3, 3, 3, 4, 4, 4, 4, 4, 4, 4, 4, 5, 5, 5, 5, 5, 5, 5, 5, 5, 5, 5, 5, 5, 5, 5, 5, 6, 6, 6, 6, 6, 6, 6, 6, 6, 6, 6, 6, 6, 6, 6, 6, 6, 6, 6, 6, 6, 6, 6, 6, 6, 6, 6, 6, 6, 6, 6, 6, 7, 7, 7, 7, 7, 7, 7, 7, 7, 7, 7, 7, 7, 7, 7, 7, 7, 7, 7, 7, 7, 7, 7, 7, 7, 7, 7, 7, 7, 7, 7, 7, 7, 7, 7, 7, 7, 7, 7, 7, 7, 7, 7, 7, 7, 7, 7, 7, 7, 7, 7, 7, 7, 7, 7, 7, 7, 7, 7, 7, 7, 7, 7, 7, 8, 8, 8, 8, 8, 8, 8, 8, 8, 8, 8, 8, 8, 8, 8, 8, 8, 8, 8, 8, 8, 8, 8, 8, 8, 8, 8, 8, 8, 8, 8, 8, 8, 8, 8, 8, 8, 8, 8, 8, 8, 8, 8, 8, 8, 8, 8, 8, 8, 8, 8, 8, 8, 8, 8, 8, 8, 8, 8, 8, 8, 8, 8, 8, 8, 8, 8, 8, 8, 8, 8, 8, 8, 8, 8, 8, 8, 8, 8, 8, 8, 8, 8, 8, 8, 8, 8, 8, 8, 8, 8, 8, 8, 8, 8, 8, 8, 8, 8, 8, 8, 8, 8, 8, 8, 8, 8, 8, 8, 8, 8, 8, 8, 8, 8, 8, 8, 8, 8, 8, 8, 8, 8, 8, 8, 8, 8, 8] : Nat) : Int))) (some ⟨[.dat tI (wrap .i64 ((wrap .i64 ((0 : Int) + (8 : Int))) + (wrap .i64 ((UInt8.toNat (List.getD [0, 1, 2, 2, 3, 3, 3, 3, 4, 4, 4, 4, 4, 4, 4, 4, 5, 5, 5, 5, 5, 5, 5, 5, 5, 5, 5, 5, 5, 5, 5, 5, 6, 6, 6, 6, 6, 6, 6, 6, 6, 6, 6, 6, 6, 6, 6, 6, 6, 6, 6, 6, 6, 6, 6, 6, 6, 6, 6, 6, 6, 6, 6, 6, 7, 7, 7, 7, 7, 7, 7, 7, 7, 7, 7, 7, 7, 7, 7, 7, 7, 7, 7, 7, 7, 7, 7, 7, 7, 7, 7, 7, 7, 7, 7, 7, 7, 7, 7, 7, 7, 7, 7, 7, 7, 7, 7, 7, 7, 7, 7, 7, 7, 7, 7, 7, 7, 7, 7, 7, 7, 7, 7, 7, 7, 7, 7, 7, 8, 8, 8, 8, 8, 8, 8, 8, 8, 8, 8, 8, 8, 8, 8, 8, 8, 8, 8, 8, 8, 8, 8, 8, 8, 8, 8, 8, 8, 8, 8, 8, 8, 8, 8, 8, 8, 8, 8, 8, 8, 8, 8, 8, 8, 8, 8, 8, 8, 8, 8, 8, 8, 8, 8, 8, 8, 8, 8, 8, 8, 8, 8, 8, 8, 8, 8, 8, 8, 8, 8, 8, 8, 8, 8, 8, 8, 8, 8, 8, 8, 8, 8, 8, 8, 8, 8, 8, 8, 8, 8, 8, 8, 8, 8, 8, 8, 8, 8, 8, 8, 8, 8, 8, 8, 8, 8, 8, 8, 8, 8, 8, 8, 8, 8, 8, 8, 8, 8, 8, 8, 8, 8, 8, 8, 8, 8, 8] (Int.toNat (wrap .u8 (Int.fdiv a0 (2 ^ (min (Int.toNat (8 : Int)) (IntKind.bits .u32)))))) 0) : Nat) : Int))))], []⟩) none) none)) (cond (decide ((0 : Int) ≤ (wrap .u8 a0))) (cond (decide ((wrap .u8 a0) < ((List.length [0, 1, 2, 2, 3, 3, 3, 3, 4, 4, 4, 4, 4, 4, 4, 4, 5, 5, 5, 5, 5, 5, 5, 5, 5, 5, 5, 5, 5, 5, 5, 5, 6, 6, 6, 6, 6, 6, 6, 6, 6, 6, 6, 6, 6, 6, 6, 6, 6, 6, 6, 6, 6, 6, 6, 6, 6, 6, 6, 6, 6, 6, 6, 6, 7, 7, 7, 7, 7, 7, 7, 7, 7, 7, 7, 7, 7, 7, 7, 7, 7, 7, 7, 7, 7, 7, 7, 7, 7, 7, 7, 7, 7, 7, 7, 7, 7, 7, 7, 7, 7, 7, 7, 7, 7, 7, 7, 7, 7, 7, 7, 7, 7, 7, 7, 7, 7, 7, 7, 7, 7, 7, 7, 7, 7, 7, 7, 7, 8, 8, 8, 8, 8, 8, 8, 8, 8, 8, 8, 8, 8, 8, 8, 8, 8, 8, 8, 8, 8, 8, 8, 8, 8, 8, 8, 8, 8, 8, 8, 8, 8, 8, 8, 8, 8, 8, 8, 8, 8, 8, 8, 8, 8, 8, 8, 8, 8, 8, 8, 8, 8, 8, 8, 8, 8, 8, 8, 8, 8, 8, 8, 8, 8, 8, 8, 8, 8, 8, 8, 8, 8, 8, 8, 8, 8, 8, 8, 8, 8, 8, 8, 8, 8, 8, 8, 8, 8, 8, 8, 8, 8, 8, 8, 8, 8, 8, 8, 8, 8, 8, 8, 8, 8, 8, 8, 8, 8, 8, 8, 8, 8, 8, 8, 8, 8, 8, 8, 8, 8, 8, 8, 8, 8, 8, 8, 8] : Nat) : Int))) (some ⟨[.dat tI (wrap .i64 ((0 : Int) + (wrap .i64 ((UInt8.toNat (List.getD [0, 1, 2, 2, 3, 3, 3, 3, 4, 4, 4, 4, 4, 4, 4, 4, 5, 5, 5, 5, 5, 5, 5, 5, 5, 5, 5, 5, 5, 5, 5, 5, 6, 6, 6, 6, 6, 6, 6, 6, 6, 6, 6, 6, 6, 6, 6, 6, 6, 6, 6, 6, 6, 6, 6, 6, 6, 6, 6, 6, 6, 6, 6, 6, 7, 7, 7, 7, 7, 7, 7, 7, 7, 7, 7, 7, 7, 7, 7, 7, 7, 7, 7, 7, 7, 7, 7, 7, 7, 7, 7, 7, 7, 7, 7, 7, 7, 7, 7, 7, 7, 7, 7, 7, 7, 7, 7, 7, 7, 7, 7, 7, 7, 7, 7, 7, 7, 7, 7, 7, 7, 7, 7, 7, 7, 7, 7, 7, 8, 8, 8, 8, 8, 8, 8, 8, 8, 8, 8, 8, 8, 8, 8, 8, 8, 8, 8, 8, 8, 8, 8, 8, 8, 8, 8, 8, 8, 8, 8, 8, 8, 8, 8, 8, 8, 8, 8, 8, 8, 8, 8, 8, 8, 8, 8, 8, 8, 8, 8, 8, 8, 8, 8, 8, 8, 8, 8, 8, 8, 8, 8, 8, 8, 8, 8, 8, 8, 8, 8, 8, 8, 8, 8, 8, 8, 8, 8, 8, 8, 8, 8, 8, 8, 8, 8, 8, 8, 8, 8, 8, 8, 8, 8, 8, 8, 8, 8, 8, 8, 8, 8, 8, 8, 8, 8, 8, 8, 8, 8, 8, 8, 8, 8, 8, 8, 8, 8, 8, 8, 8, 8, 8, 8, 8, 8, 8] (Int.toNat (wrap .u8 a0)) 0) : Nat) : Int))))], []⟩) none) none))) := (I80.run_eq _).trans (by kernel_rfl)
end Go.Ev.N

set_option linter.unusedVariables false
set_option linter.unusedSimpArgs false
set_option maxRecDepth 100000
namespace Go.Ev.N
open Go Go.Ev Go.Proofs
theorem f81_run (a0 : Int) : I81.run ⟨[.dat (.int .u64) a0], []⟩ = (cond (decide (a0 ≥ (4294967296 : Int))) (cond (decide ((32 : Int) < 0)) none (cond (decide ((Int.fdiv a0 (2 ^ (min (Int.toNat (32 : Int)) (IntKind.bits .u64)))) ≥ (65536 : Int))) (cond (decide ((16 : Int) < 0)) none (cond (decide ((Int.fdiv (Int.fdiv a0 (2 ^ (min (Int.toNat (32 : Int)) (IntKind.bits .u64)))) (2 ^ (min (Int.toNat (16 : Int)) (IntKind.bits .u64)))) ≥ (256 : Int))) (cond (decide ((8 : Int) < 0)) none (cond (decide ((0 : Int) ≤ (wrap .u8 (Int.fdiv (Int.fdiv (Int.fdiv a0 (2 ^ (min (Int.toNat (32 : Int)) (IntKind.bits .u64)))) (2 ^ (min (Int.toNat (16 : Int)) (IntKind.bits .u64)))) (2 ^ (min (Int.toNat (8 : Int)) (IntKind.bits .u64))))))) (cond (decide ((wrap .u8 (Int.fdiv (Int.fdiv (Int.fdiv a0 (2 ^ (min (Int.toNat (32 : Int)) (IntKind.bits .u64)))) (2 ^ (min (Int.toNat (16 : Int)) (IntKind.bits .u64)))) (2 ^ (min (Int.toNat (8 : Int)) (IntKind.bits .u64))))) < ((List.length [0, 1, 2, 2, 3, 3, 3, 3, 4, 4, 4, 4, 4, 4, 4, 4, 5, 5, 5, 5, 5, 5, 5, 5, 5, 5, 5, 5, 5, 5, 5, 5, 6, 6, 6, 6, 6, 6, 6, 6, 6, 6, 6, 6, 6, 6, 6, 6, 6, 6, 6, 6, 6, 6, 6, 6, 6, 6, 6, 6, 6, 6, 6, 6, 7, 7, 7, 7, 7, 7, 7, 7, 7, 7, 7, 7, 7, 7, 7, 7, 7, 7, 7, 7, 7, 7, 7, 7, 7, 7, 7, 7, 7, 7, 7, 7, 7, 7, 7, 7, 7, 7, 7, 7, 7, 7, 7, 7, 7, 7, 7, 7, 7, 7, 7, 7, 7, 7, 7, 7, 7, 7, 7, 7, 7, 7, 7, 7, 8, 8, 8, 8, 8, 8, 8, 8, 8, 8, 8, 8, 8, 8, 8, 8, 8, 8, 8, 8, 8, 8, 8, 8, 8, 8, 8, 8, 8, 8, 8, 8, 8, 8, 8, 8, 8, 8, 8, 8, 8, 8, 8, 8, 8, 8, 8, 8, 8, 8, 8, 8, 8, 8, 8, 8, 8, 8, 8, 8, 8, 8, 8, 8, 8, 8, 8, 8, 8, 8, 8, 8, 8, 8, 8, 8, 8, 8, 8, 8, 8, 8, 8, 8, 8, 8, 8, 8, 8, 8, 8, 8, 8, 8, 8, 8, 8, 8, 8, 8, 8, 8, 8, 8, 8, 8, 8, 8, 8, 8, 8, 8, 8, 8, 8, 8, 8, 8, 8, 8, 8, 8, 8, 8, 8, 8, 8, 8] : Nat) : Int))) (some ⟨[.dat tI (wrap .i64 ((wrap .i64 ((wrap .i64 ((32 : Int) + (16 : Int))) + (8 : Int))) + (wrap .i64 ((UInt8.toNat (List.getD [0, 1, 2, 2, 3, 3, 3, 3, 4, 4, 4, 4, 4, 4, 4, 4, 5, 5, 5, 5, 5, 5, 5, 5, 5, 5, 5, 5, 5, 5, 5, 5, 6, 6, 6, 6, 6, 6, 6, 6, 6, 6, 6, 6, 6, 6, 6, 6, 6, 6, 6, 6, 6, 6, 6, 6, 6, 6, 6, 6, 6, 6, 6, 6, 7, 7, 7, 7, 7, 7, 7, 7, 7, 7, 7, 7, 7, 7, 7, 7, 7, 7, 7, 7, 7, 7, 7, 7, 7, 7, 7, 7, 7, 7, 7, 7, 7, 7, 7, 7, 7, 7, 7, 7, 7, 7, 7, 7, 7, 7, 7, 7, 7, 7, 7, 7, 7, 7, 7, 7, 7, 7, 7, 7, 7, 7, 7, 7, 8, 8, 8, 8, 8, 8, 8, 8, 8, 8, 8, 8, 8, 8, 8, 8, 8, 8, 8, 8, 8, 8, 8, 8, 8, 8, 8, 8, 8, 8, 8, 8, 8, 8, 8, 8, 8, 8, 8, 8, 8, 8, 8, 8, 8, 8, 8, 8, 8, 8, 8, 8, 8, 8, 8, 8, 8, 8, 8, 8, 8, 8, 8, 8, 8, 8, 8, 8, 8, 8, 8, 8, 8, 8, 8, 8, 8, 8, 8, 8, 8, 8, 8, 8, 8, 8, 8, 8, 8, 8, 8, 8, 8, 8, 8, 8, 8, 8, 8, 8, 8, 8, 8, 8, 8, 8, 8, 8, 8, 8, 8, 8, 8, 8, 8, 8, 8, 8, 8, 8, 8, 8, 8, 8, 8, 8, 8, 8] (Int.toNat (wrap .u8 (Int.fdiv (Int.fdiv (Int.fdiv a0 (2 ^ (min (Int.toNat (32 : Int)) (IntKind.bits .u64)))) (2 ^ (min (Int.toNat (16 : Int)) (IntKind.bits .u64)))) (2 ^ (min (Int.toNat (8 : Int)) (IntKind.bits .u64)))))) 0) : Nat) : Int))))], []⟩) none) none)) (cond (decide ((0 : Int) ≤ (wrap .u8 (Int.fdiv (Int.fdiv a0 (2 ^ (min (Int.toNat (32 : Int)) (IntKind.bits .u64)))) (2 ^ (min (Int.toNat (16 : Int)) (IntKind.bits .u64))))))) (cond (decide ((wrap .u8 (Int.fdiv (Int.fdiv a0 (2 ^ (min (Int.toNat (32 : Int)) (IntKind.bits .u64)))) (2 ^ (min (Int.toNat (16 : Int)) (IntKind.bits .u64))))) < ((List.length [0, 1, 2, 2, 3, 3, 3, 3, 4, 4, 4, 4, 4, 4, 4, 4, 5, 5, 5, 5, 5, 5, 5, 5, 5, 5, 5, 5, 5, 5, 5, 5, 6, 6, 6, 6, 6, 6, 6, 6, 6, 6, 6, 6, 6, 6, 6, 6, 6, 6, 6, 6, 6, 6, 6, 6, 6, 6, 6, 6, 6, 6, 6, 6, 7, 7, 7, 7, 7, 7, 7, 7, 7, 7, 7, 7, 7, 7, 7, 7, 7, 7, 7, 7, 7, 7, 7, 7, 7, 7, 7, 7, 7, 7, 7, 7, 7, 7, 7, 7, 7, 7, 7, 7, 7, 7, 7, 7, 7, 7, 7, 7, 7, 7, 7, 7, 7, 7, 7, 7, 7, 7, 7, 7, 7, 7, 7, 7, 8, 8, 8, 8, 8, 8, 8, 8, 8, 8, 8, 8, 8, 8, 8, 8, 8, 8, 8, 8, 8, 8, 8, 8, 8, 8, 8, 8, 8, 8, 8, 8, 8, 8, 8, 8, 8, 8, 8, 8, 8, 8, 8, 8, 8, 8, 8, 8, 8, 8, 8, 8, 8, 8, 8, 8, 8, 8, 8, 8, 8, 8, 8, 8, 8, 8, 8, 8, 8, 8, 8, 8, 8, 8, 8, 8, 8, 8, 8, 8, 8, 8, 8, 8, 8, 8, 8, 8, 8, 8, 8, 8, 8, 8, 8, 8, 8, 8, 8, 8, 8, 8, 8, 8, 8, 8, 8, 8, 8, 8, 8, 8, 8, 8, 8, 8, 8, 8, 8, 8, 8, 8, 8, 8, 8, 8, 8, 8] : Nat) : Int))) (some ⟨[.dat tI (wrap .i64 ((wrap .i64 ((32 : Int) + (16 : Int))) + (wrap .i64 ((UInt8.toNat (List.getD [0, 1, 2, 2, 3, 3, 3, 3, 4, 4, 4, 4, 4, 4, 4, 4, 5, 5, 5, 5, 5, 5, 5, 5, 5, 5, 5, 5, 5, 5, 5, 5, 6, 6, 6, 6, 6, 6, 6, 6, 6, 6, 6, 6, 6, 6, 6, 6, 6, 6, 6, 6, 6, 6, 6, 6, 6, 6, 6, 6, 6, 6, 6, 6, 7, 7, 7, 7, 7, 7, 7, 7, 7, 7, 7, 7, 7, 7, 7, 7, 7, 7, 7, 7, 7, 7, 7, 7, 7, 7, 7, 7, 7, 7, 7, 7, 7, 7, 7, 7, 7, 7, 7, 7, 7, 7, 7, 7, 7, 7, 7, 7, 7, 7, 7, 7, 7, 7, 7, 7, 7, 7, 7, 7, 7, 7, 7, 7, 8, 8, 8, 8, 8, 8, 8, 8, 8, 8, 8, 8, 8, 8, 8, 8, 8, 8, 8, 8, 8, 8, 8, 8, 8, 8, 8, 8, 8, 8, 8, 8, 8, 8, 8, 8, 8, 8, 8, 8, 8, 8, 8, 8, 8, 8, 8, 8, 8, 8, 8, 8, 8, 8, 8, 8, 8, 8, 8, 8, 8, 8, 8, 8, 8, 8, 8, 8, 8, 8, 8, 8, 8, 8, 8, 8, 8, 8, 8, 8, 8, 8, 8, 8, 8, 8, 8, 8, 8, 8, 8, 8, 8, 8, 8, 8, 8, 8, 8, 8, 8, 8, 8, 8, 8, 8, 8, 8, 8, 8, 8, 8, 8, 8, 8, 8, 8, 8, 8, 8, 8, 8, 8, 8, 8, 8, 8, 8] (Int.toNat (wrap .u8 (Int.fdiv (Int.fdiv a0 (2 ^ (min (Int.toNat (32 : Int)) (IntKind.bits .u64)))) (2 ^ (min (Int.toNat (16 : Int)) (IntKind.bits .u64)))))) 0) : Nat) : Int))))], []⟩) none) none))) (cond (decide ((Int.fdiv a0 (2 ^ (min (Int.toNat (32 : Int)) (IntKind.bits .u64)))) ≥ (256 : Int))) (cond (decide ((8 : Int) < 0)) none (cond (decide ((0 : Int) ≤ (wrap .u8 (Int.fdiv (Int.fdiv a0 (2 ^ (min (Int.toNat (32 : Int)) (IntKind.bits .u64)))) (2 ^ (min (Int.toNat (8 : Int)) (IntKind.bits .u64))))))) (cond (decide ((wrap .u8 (Int.fdiv (Int.fdiv a0 (2 ^ (min (Int.toNat (32 : Int)) (IntKind.bits .u64)))) (2 ^ (min (Int.toNat (8 : Int)) (IntKind.bits .u64))))) < ((List.length [0, 1, 2, 2, 3, 3, 3, 3, 4, 4, 4, 4, 4, 4, 4, 4, 5, 5, 5, 5, 5, 5, 5, 5, 5, 5, 5, 5, 5, 5, 5, 5, 6, 6, 6, 6, 6, 6, 6, 6, 6, 6, 6, 6, 6, 6, 6, 6, 6, 6, 6, 6, 6, 6, 6, 6, 6, 6, 6, 6, 6, 6, 6, 6, 7, 7, 7, 7, 7, 7, 7, 7, 7, 7, 7, 7, 7, 7, 7, 7, 7, 7, 7, 7, 7, 7, 7, 7, 7, 7, 7, 7, 7, 7, 7, 7, 7, 7, 7, 7, 7, 7, 7, 7, 7, 7, 7, 7, 7, 7, 7, 7, 7, 7, 7, 7, 7, 7, 7, 7, 7, 7, 7, 7, 7, 7, 7, 7, 8, 8, 8, 8, 8, 8, 8, 8, 8, 8, 8, 8, 8, 8, 8, 8, 8, 8, 8, 8, 8, 8, 8, 8, 8, 8, 8, 8, 8, 8, 8, 8, 8, 8, 8, 8, 8, 8, 8, 8, 8, 8, 8, 8, 8, 8, 8, 8, 8, 8, 8, 8, 8, 8, 8, 8, 8, 8, 8, 8, 8, 8, 8, 8, 8, 8, 8, 8, 8, 8, 8, 8, 8, 8, 8, 8, 8, 8, 8, 8, 8, 8, 8, 8, 8, 8, 8, 8, 8, 8, 8, 8, 8, 8, 8, 8, 8, 8, 8, 8, 8, 8, 8, 8, 8, 8, 8, 8, 8, 8, 8, 8, 8, 8, 8, 8, 8, 8, 8, 8, 8, 8, 8, 8, 8, 8, 8, 8] : Nat) : Int))) (some ⟨[.dat tI (wrap .i64 ((wrap .i64 ((32 : Int) + (8 : Int))) + (wrap .i64 ((UInt8.toNat (List.getD [0, 1, 2, 2, 3, 3, 3, 3, 4, 4, 4, 4, 4, 4, 4, 4, 5, 5, 5, 5, 5, 5, 5, 5, 5, 5, 5, 5, 5, 5, 5, 5, 6, 6, 6, 6, 6, 6, 6, 6, 6, 6, 6, 6, 6, 6, 6, 6, 6, 6, 6, 6, 6, 6, 6, 6, 6, 6, 6, 6, 6, 6, 6, 6, 7, 7, 7, 7, 7, 7, 7, 7, 7, 7, 7, 7, 7, 7, 7, 7, 7, 7, 7, 7, 7, 7, 7, 7, 7, 7, 7, 7, 7, 7, 7, 7, 7, 7, 7, 7, 7, 7, 7, 7, 7, 7, 7, 7, 7, 7, 7, 7, 7, 7, 7, 7, 7, 7, 7, 7, 7, 7, 7, 7, 7, 7, 7, 7, 8, 8, 8, 8, 8, 8, 8, 8, 8, 8, 8, 8, 8, 8, 8, 8, 8, 8, 8, 8, 8, 8, 8, 8, 8, 8, 8, 8, 8, 8, 8, 8, 8, 8, 8, 8, 8, 8, 8, 8, 8, 8, 8, 8, 8, 8, 8, 8, 8, 8, 8, 8, 8, 8, 8, 8, 8, 8, 8, 8, 8, 8, 8, 8, 8, 8, 8, 8, 8, 8, 8, 8, 8, 8, 8, 8, 8, 8, 8, 8, 8, 8, 8, 8, 8, 8, 8, 8, 8, 8, 8, 8, 8, 8, 8, 8, 8, 8, 8, 8, 8, 8, 8, 8, 8, 8, 8, 8, 8, 8, 8, 8, 8, 8, 8, 8, 8, 8, 8, 8, 8, 8, 8, 8, 8, 8, 8, 8] (Int.toNat (wrap .u8 (Int.fdiv (Int.fdiv a0 (2 ^ (min (Int.toNat (32 : Int)) (IntKind.bits .u64)))) (2 ^ (min (Int.toNat (8 : Int)) (IntKind.bits .u64)))))) 0) : Nat) : Int))))], []⟩) none) none)) (cond (decide ((0 : Int) ≤ (wrap .u8 (Int.fdiv a0 (2 ^ (min (Int.toNat (32 : Int)) (IntKind.bits .u64))))))) (cond (decide ((wrap .u8 (Int.fdiv a0 (2 ^ (min (Int.toNat (32 : Int)) (IntKind.bits .u64))))) < ((List.length [0, 1, 2, 2, 3, 3, 3, 3, 4, 4, 4, 4, 4, 4, 4, 4, 5, 5, 5, 5, 5, 5, 5, 5, 5, 5, 5, 5, 5, 5, 5, 5, 6, 6, 6, 6, 6, 6, 6, 6, 6, 6, 6, 6, 6, 6, 6, 6, 6, 6, 6, 6, 6, 6, 6, 6, 6, 6, 6, 6, 6, 6, 6, 6, 7, 7, 7, 7, 7, 7, 7, 7, 7, 7, 7, 7, 7, 7, 7, 7, 7, 7, 7, 7, 7, 7, 7, 7, 7, 7, 7, 7, 7, 7, 7, 7, 7, 7, 7, 7, 7, 7, 7, 7, 7, 7, 7, 7, 7, 7, 7, 7, 7, 7, 7, 7, 7, 7, 7, 7, 7, 7, 7, 7, 7, 7, 7, 7, 8, 8, 8, 8, 8, 8, 8, 8, 8, 8, 8, 8, 8, 8, 8, 8, 8, 8, 8, 8, 8, 8, 8, 8, 8, 8, 8, 8, 8, 8, 8, 8, 8, 8, 8, 8, 8, 8, 8, 8, 8, 8, 8, 8, 8, 8, 8, 8, 8, 8, 8, 8, 8, 8, 8, 8, 8, 8, 8, 8, 8, 8, 8, 8, 8, 8, 8, 8, 8, 8, 8, 8, 8, 8, 8, 8, 8, 8, 8, 8, 8, 8, 8, 8, 8, 8, 8, 8, 8, 8, 8, 8, 8, 8, 8, 8, 8, 8, 8, 8, 8, 8, 8, 8, 8, 8, 8, 8, 8, 8, 8, 8, 8, 8, 8, 8, 8, 8, 8, 8, 8, 8, 8, 8, 8, 8, 8, 8] : Nat) : Int))) (some ⟨[.dat tI (wrap .i64 ((32 : Int) + (wrap .i64 ((UInt8.toNat (List.getD [0, 1, 2, 2, 3, 3, 3, 3, 4, 4, 4, 4, 4, 4, 4, 4, 5, 5, 5, 5, 5, 5, 5, 5, 5, 5, 5, 5, 5, 5, 5, 5, 6, 6, 6, 6, 6, 6, 6, 6, 6, 6, 6, 6, 6, 6, 6, 6, 6, 6, 6, 6, 6, 6, 6, 6, 6, 6, 6, 6, 6, 6, 6, 6, 7, 7, 7, 7, 7, 7, 7, 7, 7, 7, 7, 7, 7, 7, 7, 7, 7, 7, 7, 7, 7, 7, 7, 7, 7, 7, 7, 7, 7, 7, 7, 7, 7, 7, 7, 7, 7, 7, 7, 7, 7, 7, 7, 7, 7, 7, 7, 7, 7, 7, 7, 7, 7, 7, 7, 7, 7, 7, 7, 7, 7, 7, 7, 7, 8, 8, 8, 8, 8, 8, 8, 8, 8, 8, 8, 8, 8, 8, 8, 8, 8, 8, 8, 8, 8, 8, 8, 8, 8, 8, 8, 8, 8, 8, 8, 8, 8, 8, 8, 8, 8, 8, 8, 8, 8, 8, 8, 8, 8, 8, 8, 8, 8, 8, 8, 8, 8, 8, 8, 8, 8, 8, 8, 8, 8, 8, 8, 8, 8, 8, 8, 8, 8, 8, 8, 8, 8, 8, 8, 8, 8, 8, 8, 8, 8, 8, 8, 8, 8, 8, 8, 8, 8, 8, 8, 8, 8, 8, 8, 8, 8, 8, 8, 8, 8, 8, 8, 8, 8, 8, 8, 8, 8, 8, 8, 8, 8, 8, 8, 8, 8, 8, 8, 8, 8, 8, 8, 8, 8, 8, 8, 8] (Int.toNat (wrap .u8 (Int.fdiv a0 (2 ^ (min (Int.toNat (32 : Int)) (IntKind.bits .u64)))))) 0) : Nat) : Int))))], []⟩) none) none)))) (cond (decide (a0 ≥ (65536 : Int))) (cond (decide ((16 : Int) < 0)) none (cond (decide ((Int.fdiv a0 (2 ^ (min (Int.toNat (16 : Int)) (IntKind.bits .u64)))) ≥ (256 : Int))) (cond (decide ((8 : Int) < 0)) none (cond (decide ((0 : Int) ≤ (wrap .u8 (Int.fdiv (Int.fdiv a0 (2 ^ (min (Int.toNat (16 : Int)) (IntKind.bits .u64)))) (2 ^ (min (Int.toNat (8 : Int)) (IntKind.bits .u64))))))) (cond (decide ((wrap .u8 (Int.fdiv (Int.fdiv a0 (2 ^ (min (Int.toNat (16 : Int)) (IntKind.bits .u64)))) (2 ^ (min (Int.toNat (8 : Int)) (IntKind.bits .u64))))) < ((List.length [0, 1, 2, 2, 3, 3, 3, 3, 4, 4, 4, 4, 4, 4, 4, 4, 5, 5, 5, 5, 5, 5, 5, 5, 5, 5, 5, 5, 5, 5, 5, 5, 6, 6, 6, 6, 6, 6, 6, 6, 6, 6, 6, 6, 6, 6, 6, 6, 6, 6, 6, 6, 6, 6, 6, 6, 6, 6, 6, 6, 6, 6, 6, 6, 7, 7, 7, 7, 7, 7, 7, 7, 7, 7, 7, 7, 7, 7, 7, 7, 7, 7, 7, 7, 7, 7, 7, 7, 7, 7, 7, 7, 7, 7, 7, 7, 7, 7, 7, 7, 7, 7, 7, 7, 7, 7, 7, 7, 7, 7, 7, 7, 7, 7, 7, 7, 7, 7, 7, 7, 7, 7, 7, 7, 7, 7, 7, 7, 8, 8, 8, 8, 8, 8, 8, 8, 8, 8, 8, 8, 8, 8, 8, 8, 8, 8, 8, 8, 8, 8, 8, 8, 8, 8, 8, 8, 8, 8, 8, 8, 8, 8, 8, 8, 8, 8, 8, 8, 8, 8, 8, 8, 8, 8, 8, 8, 8, 8, 8, 8, 8, 8, 8, 8, 8, 8, 8, 8, 8, 8, 8, 8, 8, 8, 8, 8, 8, 8, 8, 8, 8, 8, 8, 8, 8, 8, 8, 8, 8, 8, 8, 8, 8, 8, 8, 8, 8, 8, 8, 8, 8, 8, 8, 8, 8, 8, 8, 8, 8, 8, 8, 8, 8, 8, 8, 8, 8, 8, 8, 8, 8, 8, 8, 8, 8, 8, 8, 8, 8, 8, 8, 8, 8, 8, 8, 8] : Nat) : Int))) (some ⟨[.dat tI (wrap .i64 ((wrap .i64 ((wrap .i64 ((0 : Int) + (16 : Int))) + (8 : Int))) + (wrap .i64 ((UInt8.toNat (List.getD [0, 1, 2, 2, 3, 3, 3, 3, 4, 4, 4, 4, 4, 4, 4, 4, 5, 5, 5, 5, 5, 5, 5, 5, 5, 5, 5, 5, 5, 5, 5, 5, 6, 6, 6, 6, 6, 6, 6, 6, 6, 6, 6, 6, 6, 6, 6, 6, 6, 6, 6, 6, 6, 6, 6, 6, 6, 6, 6, 6, 6, 6, 6, 6, 7, 7, 7, 7, 7, 7, 7, 7, 7, 7, 7, 7, 7, 7, 7, 7, 7, 7, 7, 7, 7, 7, 7, 7, 7, 7, 7, 7, 7, 7, 7, 7, 7, 7, 7, 7, 7, 7, 7, 7, 7, 7, 7, 7, 7, 7, 7, 7, 7, 7, 7, 7, 7, 7, 7, 7, 7, 7, 7, 7, 7, 7, 7, 7, 8, 8, 8, 8, 8, 8, 8, 8, 8, 8, 8, 8, 8, 8, 8, 8, 8, 8, 8, 8, 8, 8, 8, 8, 8, 8, 8, 8, 8, 8, 8, 8, 8, 8, 8, 8, 8, 8, 8, 8, 8, 8, 8, 8, 8, 8, 8, 8, 8, 8, 8, 8, 8, 8, 8, 8, 8, 8, 8, 8, 8, 8, 8, 8, 8, 8, 8, 8, 8, 8, 8, 8, 8, 8, 8, 8, 8, 8, 8, 8, 8, 8, 8, 8, 8, 8, 8, 8, 8, 8, 8, 8, 8, 8, 8, 8, 8, 8, 8, 8, 8, 8, 8, 8, 8, 8, 8, 8, 8, 8, 8, 8, 8, 8, 8, 8, 8, 8, 8, 8, 8, 8, 8, 8, 8, 8, 8, 8] (Int.toNat (wrap .u8 (Int.fdiv (Int.fdiv a0 (2 ^ (min (Int.toNat (16 : Int)) (IntKind.bits .u64)))) (2 ^ (min (Int.toNat (8 : Int)) (IntKind.bits .u64)))))) 0) : Nat) : Int))))], []⟩) none) none)) (cond (decide ((0 : Int) ≤ (wrap .u8 (Int.fdiv a0 (2 ^ (min (Int.toNat (16 : Int)) (IntKind.bits .u64))))))) (cond (decide ((wrap .u8 (Int.fdiv a0 (2 ^ (min (Int.toNat (16 : Int)) (IntKind.bits .u64))))) < ((List.length [0, 1, 2, 2, 3, 3, 3, 3, 4, 4, 4, 4, 4, 4, 4, 4, 5, 5, 5, 5, 5, 5, 5, 5, 5, 5, 5, 5, 5, 5, 5, 5, 6, 6, 6, 6, 6, 6, 6, 6, 6, 6, 6, 6, 6, 6, 6, 6, 6, 6, 6, 6, 6, 6, 6, 6, 6, 6, 6, 6, 6, 6, 6, 6, 7, 7, 7, 7, 7, 7, 7, 7, 7, 7, 7, 7, 7, 7, 7, 7, 7, 7, 7, 7, 7, 7, 7, 7, 7, 7, 7, 7, 7, 7, 7, 7, 7, 7, 7, 7, 7, 7, 7, 7, 7, 7, 7, 7, 7, 7, 7, 7, 7, 7, 7, 7, 7, 7, 7, 7, 7, 7, 7, 7, 7, 7, 7, 7, 8, 8, 8, 8, 8, 8, 8, 8, 8, 8, 8, 8, 8, 8, 8, 8, 8, 8, 8, 8, 8, 8, 8, 8, 8, 8, 8, 8, 8, 8, 8, 8, 8, 8, 8, 8, 8, 8, 8, 8, 8, 8, 8, 8, 8, 8, 8, 8, 8, 8, 8, 8, 8, 8, 8, 8, 8, 8, 8, 8, 8, 8, 8, 8, 8, 8, 8, 8, 8, 8, 8, 8, 8, 8, 8, 8, 8, 8, 8, 8, 8, 8, 8, 8, 8, 8, 8, 8, 8, 8, 8, 8, 8, 8, 8, 8, 8, 8, 8, 8, 8, 8, 8, 8, 8, 8, 8, 8, 8, 8, 8, 8, 8, 8, 8, 8, 8, 8, 8, 8, 8, 8, 8, 8, 8, 8, 8, 8] : Nat) : Int))) (some ⟨[.dat tI (wrap .i64 ((wrap .i64 ((0 : Int) + (16 : Int))) + (wrap .i64 ((UInt8.toNat (List.getD [0, 1, 2, 2, 3, 3, 3, 3, 4, 4, 4, 4, 4, 4, 4, 4, 5, 5, 5, 5, 5, 5, 5, 5, 5, 5, 5, 5, 5, 5, 5, 5, 6, 6, 6, 6, 6, 6, 6, 6, 6, 6, 6, 6, 6, 6, 6, 6, 6, 6, 6, 6, 6, 6, 6, 6, 6, 6, 6, 6, 6, 6, 6, 6, 7, 7, 7, 7, 7, 7, 7, 7, 7, 7, 7, 7, 7, 7, 7, 7, 7, 7, 7, 7, 7, 7, 7, 7, 7, 7, 7, 7, 7, 7, 7, 7, 7, 7, 7, 7, 7, 7, 7, 7, 7, 7, 7, 7, 7, 7, 7, 7, 7, 7, 7, 7, 7, 7, 7, 7, 7, 7, 7, 7, 7, 7, 7, 7, 8, 8, 8, 8, 8, 8, 8, 8, 8, 8, 8, 8, 8, 8, 8, 8, 8, 8, 8, 8, 8, 8, 8, 8, 8, 8, 8, 8, 8, 8, 8, 8, 8, 8, 8, 8, 8, 8, 8, 8, 8, 8, 8, 8, 8, 8, 8, 8, 8, 8, 8, 8, 8, 8, 8, 8, 8, 8, 8, 8, 8, 8, 8, 8, 8, 8, 8, 8, 8, 8, 8, 8, 8, 8, 8, 8, 8, 8, 8, 8, 8, 8, 8, 8, 8, 8, 8, 8, 8, 8, 8, 8, 8, 8, 8, 8, 8, 8, 8, 8, 8, 8, 8, 8, 8, 8, 8, 8, 8, 8, 8, 8, 8, 8, 8, 8, 8, 8, 8, 8, 8, 8, 8, 8, 8, 8, 8, 8] (Int.toNat (wrap .u8 (Int.fdiv a0 (2 ^ (min (Int.toNat (16 : Int)) (IntKind.bits .u64)))))) 0) : Nat) : Int))))], []⟩) none) none))) (cond (decide (a0 ≥ (256 : Int))) (cond (decide ((8 : Int) < 0)) none (cond (decide ((0 : Int) ≤ (wrap .u8 (Int.fdiv a0 (2 ^ (min (Int.toNat (8 : Int)) (IntKind.bits .u64))))))) (cond (decide ((wrap .u8 (Int.fdiv a0 (2 ^ (min (Int.toNat (8 : Int)) (IntKind.bits .u64))))) < ((List.length [0, 1, 2, 2, 3, 3, 3, 3, 4, 4, 4, 4, 4, 4, 4, 4, 5, 5, 5, 5, 5, 5, 5, 5, 5, 5, 5, 5, 5, 5, 5, 5, 6, 6, 6, 6, 6, 6, 6, 6, 6, 6, 6, 6, 6, 6, 6, 6, 6, 6, 6, 6, 6, 6, 6, 6, 6, 6, 6, 6, 6, 6, 6, 6, 7, 7, 7, 7, 7, 7, 7, 7, 7, 7, 7, 7, 7, 7, 7, 7, 7, 7, 7, 7, 7, 7, 7, 7, 7, 7, 7, 7, 7, 7, 7, 7, 7, 7, 7, 7, 7, 7, 7, 7, 7, 7, 7, 7, 7, 7, 7, 7, 7, 7, 7, 7, 7, 7, 7, 7, 7, 7, 7, 7, 7, 7, 7, 7, 8, 8, 8, 8, 8, 8, 8, 8, 8, 8, 8, 8, 8, 8, 8, 8, 8, 8, 8, 8, 8, 8, 8, 8, 8, 8, 8, 8, 8, 8, 8, 8, 8, 8, 8, 8, 8, 8, 8, 8, 8, 8, 8, 8, 8, 8, 8, 8, 8, 8, 8, 8, 8, 8, 8, 8, 8, 8, 8, 8, 8, 8, 8, 8, 8, 8, 8, 8, 8, 8, 8, 8, 8, 8, 8, 8, 8, 8, 8, 8, 8, 8, 8, 8, 8, 8, 8, 8, 8, 8, 8, 8, 8, 8, 8, 8, 8, 8, 8, 8, 8, 8, 8, 8, 8, 8, 8, 8, 8, 8, 8, 8, 8, 8, 8, 8, 8, 8, 8, 8, 8, 8, 8, 8, 8, 8, 8, 8] : Nat) : Int))) (some ⟨[.dat tI (wrap .i64 ((wrap .i64 ((0 : Int) + (8 : Int))) + (wrap .i64 ((UInt8.toNat (List.getD [0, 1, 2, 2, 3, 3, 3, 3, 4, 4, 4, 4, 4, 4, 4, 4, 5, 5, 5, 5, 5, 5, 5, 5, 5, 5, 5, 5, 5, 5, 5, 5, 6, 6, 6, 6, 6, 6, 6, 6, 6, 6, 6, 6, 6, 6, 6, 6, 6, 6, 6, 6, 6, 6, 6, 6, 6, 6, 6, 6, 6, 6, 6, 6, 7, 7, 7, 7, 7, 7, 7, 7, 7, 7, 7, 7, 7, 7, 7, 7, 7, 7, 7, 7, 7, 7, 7, 7, 7, 7, 7, 7, 7, 7, 7, 7, 7, 7, 7, 7, 7, 7, 7, 7, 7, 7, 7, 7, 7, 7, 7, 7, 7, 7, 7, 7, 7, 7, 7, 7, 7, 7, 7, 7, 7, 7, 7, 7, 8, 8, 8, 8, 8, 8, 8, 8, 8, 8, 8, 8, 8, 8, 8, 8, 8, 8, 8, 8, 8, 8, 8, 8, 8, 8, 8, 8, 8, 8, 8, 8, 8, 8, 8, 8, 8, 8, 8, 8, 8, 8, 8, 8, 8, 8, 8, 8, 8, 8, 8, 8, 8, 8, 8, 8, 8, 8, 8, 8, 8, 8, 8, 8, 8, 8, 8, 8, 8, 8, 8, 8, 8, 8, 8, 8, 8, 8, 8, 8, 8, 8, 8, 8, 8, 8, 8, 8, 8, 8, 8, 8, 8, 8, 8, 8, 8, 8, 8, 8, 8, 8, 8, 8, 8, 8, 8, 8, 8, 8, 8, 8, 8, 8, 8, 8, 8, 8, 8, 8, 8, 8, 8, 8, 8, 8, 8, 8] (Int.toNat (wrap .u8 (Int.fdiv a0 (2 ^ (min (Int.toNat (8 : Int)) (IntKind.bits .u64)))))) 0) : Nat) : Int))))], []⟩) none) none)) (cond (decide ((0 : Int) ≤ (wrap .u8 a0))) (cond (decide ((wrap .u8 a0) < ((List.length [0, 1, 2, 2, 3, 3, 3, 3, 4, 4, 4, 4, 4, 4, 4, 4, 5, 5, 5, 5, 5, 5, 5, 5, 5, 5, 5, 5, 5, 5, 5, 5, 6, 6, 6, 6, 6, 6, 6, 6, 6, 6, 6, 6, 6, 6, 6, 6, 6, 6, 6, 6, 6, 6, 6, 6, 6, 6, 6, 6, 6, 6, 6, 6, 7, 7, 7, 7, 7, 7, 7, 7, 7, 7, 7, 7, 7, 7, 7, 7, 7, 7, 7, 7, 7, 7, 7, 7, 7, 7, 7, 7, 7, 7, 7, 7, 7, 7, 7, 7, 7, 7, 7, 7, 7, 7, 7, 7, 7, 7, 7, 7, 7, 7, 7, 7, 7, 7, 7, 7, 7, 7, 7, 7, 7, 7, 7, 7, 8, 8, 8, 8, 8, 8, 8, 8, 8, 8, 8, 8, 8, 8, 8, 8, 8, 8, 8, 8, 8, 8, 8, 8, 8, 8, 8, 8, 8, 8, 8, 8, 8, 8, 8, 8, 8, 8, 8, 8, 8, 8, 8, 8, 8, 8, 8, 8, 8, 8, 8, 8, 8, 8, 8, 8, 8, 8, 8, 8, 8, 8, 8, 8, 8, 8, 8, 8, 8, 8, 8, 8, 8, 8, 8, 8, 8, 8, 8, 8, 8, 8, 8, 8, 8, 8, 8, 8, 8, 8, 8, 8, 8, 8, 8, 8, 8, 8, 8, 8, 8, 8, 8, 8, 8, 8, 8, 8, 8, 8, 8, 8, 8, 8, 8, 8, 8, 8, 8, 8, 8, 8, 8, 8, 8, 8, 8, 8] : Nat) : Int))) (some ⟨[.dat tI (wrap .i64 ((0 : Int) + (wrap .i64 ((UInt8.toNat (List.getD [0, 1, 2, 2, 3, 3, 3, 3, 4, 4, 4, 4, 4, 4, 4, 4, 5, 5, 5, 5, 5, 5, 5, 5, 5, 5, 5, 5, 5, 5, 5, 5, 6, 6, 6, 6, 6, 6, 6, 6, 6, 6, 6, 6, 6, 6, 6, 6, 6, 6, 6, 6, 6, 6, 6, 6, 6, 6, 6, 6, 6, 6, 6, 6, 7, 7, 7, 7, 7, 7, 7, 7, 7, 7, 7, 7, 7, 7, 7, 7, 7, 7, 7, 7, 7, 7, 7, 7, 7, 7, 7, 7, 7, 7, 7, 7, 7, 7, 7, 7, 7, 7, 7, 7, 7, 7, 7, 7, 7, 7, 7, 7, 7, 7, 7, 7, 7, 7, 7, 7, 7, 7, 7, 7, 7, 7, 7, 7, 8, 8, 8, 8, 8, 8, 8, 8, 8, 8, 8, 8, 8, 8, 8, 8, 8, 8, 8, 8, 8, 8, 8, 8, 8, 8, 8, 8, 8, 8, 8, 8, 8, 8, 8, 8, 8, 8, 8, 8, 8, 8, 8, 8, 8, 8, 8, 8, 8, 8, 8, 8, 8, 8, 8, 8, 8, 8, 8, 8, 8, 8, 8, 8, 8, 8, 8, 8, 8, 8, 8, 8, 8, 8, 8, 8, 8, 8, 8, 8, 8, 8, 8, 8, 8, 8, 8, 8, 8, 8, 8, 8, 8, 8, 8, 8, 8, 8, 8, 8, 8, 8, 8, 8, 8, 8, 8, 8, 8, 8, 8, 8, 8, 8, 8, 8, 8, 8, 8, 8, 8, 8, 8, 8, 8, 8, 8, 8] (Int.toNat (wrap .u8 a0)) 0) : Nat) : Int))))], []⟩) none) none)))) := (I81.run_eq _).trans (by kernel_rfl)
theorem f68_run (a0 : Int) : I68.run ⟨[.dat (.int .u64) a0], []⟩ = (cond (t81_ok a0) (some ⟨[.dat tI (t81_0 a0)], []⟩) none) := (I68.run_eq _).trans (by kernel_rfl)
theorem f58_run (a0 : (List Bytes)) : I58.run ⟨[.slc 0], [(0, .arr .str a0)]⟩ = (cond (t68_ok (wrap .u64 ((List.length a0 : Nat) : Int))) (cond (decide (List.length a0 = 0) && (0 : Int) == 0 && ((List.length a0 : Nat) : Int) == 0) (some ⟨[], [(0, .arr .str (a0))]⟩) none) none) := (I58.run_eq _).trans (by kernel_rfl)
noncomputable def f59h0 (x0 : Int) (x1 : (List Bytes)) : Option Fr := I59.hd 0 (mkF 61 [(0, .slc 0), (3, .dat tI x0)] [(0, .arr .str x1)])
noncomputable def f59h2 (x0 : Int) (x1 : Nat) (x2 : Int) (x3 : (List Bytes)) : Option Fr := I59.hd 2 (mkF 61 [(0, .slc 0), (3, .dat tI x0), (4, .ep 0 x1 1048575), (5, .dat tI x2)] [(0, .arr .str x3)])
theorem f59_run (a0 : (List Bytes)) : I59.run ⟨[.slc 0], [(0, .arr .str a0)]⟩ = (cond (decide (((List.length a0 : Nat) : Int) < (2 : Int))) (some ⟨[.dat (.slice .str) a0], [(0, .dead)]⟩) (f59h0 (1 : Int) a0)) := (I59.run_eq _).trans (by kernel_rfl)
theorem f59h0_eq (x0 : Int) (x1 : (List Bytes)) : f59h0 x0 x1 = (cond (decide (x0 < ((List.length x1 : Nat) : Int))) (cond (decide ((0 : Int) ≤ x0)) (cond (decide (x0 < ((List.length x1 : Nat) : Int))) (cond (decide ((Int.toNat x0) < List.length x1)) (cond (decide ((0 : Int) ≤ (wrap .i64 (x0 - (1 : Int))))) (cond (decide ((wrap .i64 (x0 - (1 : Int))) < ((List.length x1 : Nat) : Int))) (cond (decide ((Int.toNat (wrap .i64 (x0 - (1 : Int)))) < List.length x1)) (cond ((List.getD x1 (Int.toNat x0) (Tc.dflt .str)) == (List.getD x1 (Int.toNat (wrap .i64 (x0 - (1 : Int)))) (Tc.dflt .str))) (cond (decide ((0 : Int) ≤ x0)) (cond (decide (x0 < ((List.length x1 : Nat) : Int))) (f59h2 x0 (Int.toNat x0) (1 : Int) x1) none) none) (f59h0 (wrap .i64 (x0 + (1 : Int))) x1)) none) none) none) none) none) none) (some ⟨[.dat (.slice .str) x1], [(0, .dead)]⟩)) := hdEq (by kernel_rfl)
theorem f59h2_eq (x0 : Int) (x1 : Nat) (x2 : Int) (x3 : (List Bytes)) : f59h2 x0 x1 x2 x3 = (cond (decide (x1 < List.length x3)) (cond (decide (x2 < ((List.length x3 - x1 : Nat) : Int))) (cond (decide (x1 < List.length x3)) (cond (decide ((0 : Int) ≤ x2)) (cond (decide (x2 < ((List.length x3 - x1 : Nat) : Int))) (cond (decide ((x1 + Int.toNat x2) < List.length x3)) (cond (decide (x1 < List.length x3)) (cond (decide ((0 : Int) ≤ (wrap .i64 (x2 - (1 : Int))))) (cond (decide ((wrap .i64 (x2 - (1 : Int))) < ((List.length x3 - x1 : Nat) : Int))) (cond (decide ((x1 + Int.toNat (wrap .i64 (x2 - (1 : Int)))) < List.length x3)) (cond (!((List.getD x3 (x1 + Int.toNat x2) (Tc.dflt .str)) == (List.getD x3 (x1 + Int.toNat (wrap .i64 (x2 - (1 : Int)))) (Tc.dflt .str)))) (cond (decide (x1 < List.length x3)) (cond (decide ((0 : Int) ≤ x2)) (cond (decide (x2 < ((List.length x3 - x1 : Nat) : Int))) (cond (decide ((x1 + Int.toNat x2) < List.length x3)) (cond (decide ((0 : Int) ≤ x0)) (cond (decide (x0 < ((List.length x3 : Nat) : Int))) (cond (decide ((Int.toNat x0) < List.length x3)) (f59h2 (wrap .i64 (x0 + (1 : Int))) x1 (wrap .i64 (x2 + (1 : Int))) (List.set x3 (Int.toNat x0) (List.getD x3 (x1 + Int.toNat x2) (Tc.dflt .str)))) none) none) none) none) none) none) none) (f59h2 x0 x1 (wrap .i64 (x2 + (1 : Int))) x3)) none) none) none) none) none) none) none) none) (cond (decide ((0 : Int) ≤ x0)) (cond (decide (x0 < ((List.length x3 : Nat) : Int))) (cond (decide ((Int.toNat x0) < List.length x3)) (cond (decide ((0 : Int) ≤ (0 : Int))) (cond (decide ((0 : Int) ≤ x0)) (cond (decide (x0 ≤ ((List.length (List.take (Int.toNat x0) x3 ++ List.replicate (List.length x3 - (Int.toNat x0)) (Tc.dflt .str)) : Nat) : Int))) (some ⟨[.dat (.slice .str) (List.drop (Int.toNat (0 : Int)) (List.take (Int.toNat x0) (List.take (Int.toNat x0) x3 ++ List.replicate (List.length x3 - (Int.toNat x0)) (Tc.dflt .str))))], [(0, .dead)]⟩) none) none) none) none) none) none)) none) := hdEq (by kernel_rfl)
noncomputable def f44h0 (x0 : (List Item)) (x1 : Int) (x2 : Int) (x3 : (List Bytes)) : Option Fr := I44.hd 0 (mkF 21 [(3, .slc 500), (6, .dat (.slice tItem) x0), (7, .dat tI x1), (8, .dat tI x2)] [(500, .arr .str x3)])
theorem f44_run (a0 : (List Item)) : I44.run ⟨[.dat (.slice tItem) a0], []⟩ = (f44h0 a0 ((List.length a0 : Nat) : Int) (0 : Int) ([] : List Bytes)) := (I44.run_eq _).trans (by kernel_rfl)
theorem f44h0_eq (x0 : (List Item)) (x1 : Int) (x2 : Int) (x3 : (List Bytes)) : f44h0 x0 x1 x2 x3 = (cond (decide (x2 < x1)) (cond (decide ((0 : Int) ≤ x2)) (cond (decide (x2 < ((List.length x0 : Nat) : Int))) (cond (decide ((List.length x3 + List.length (List.getD x0 (Int.toNat x2) (Tc.dflt tItem)).2.2.2) * 16 ≤ 140737488355328)) (f44h0 x0 x1 (wrap .i64 (x2 + (1 : Int))) (x3 ++ (List.getD x0 (Int.toNat x2) (Tc.dflt tItem)).2.2.2)) none) none) none) (cond (decide (List.length x3 ≤ 1000000)) (cond (decide (List.length (sortB x3) ≤ 1000000)) (some ⟨[.dat (.slice .str) (compS (sortB x3))], []⟩) none) none)) := hdEq (by kernel_rfl)
noncomputable def f21h0 (x0 : Int) (x1 : Int) (x2 : Int) (x3 : (List Item)) (x4 : Int) (x5 : Int) (x6 : Int) (x7 : Int) (x8 : (List Bytes)) (x9 : (List Timed)) : Option Fr := I21.hd 0 (mkF 47 [(2, .dat tI x0), (3, .ptr 500 0), (7, .slc 501), (13, .slc 502), (14, .dat tI x1), (15, .dat tI x2)] [(500, .box [.dat (.slice tItem) x3, .dat tI x4, .dat tI x5, .dat tI x6, .dat tI x7]), (501, .arr .str x8), (502, .arr tTimed x9)])
theorem f21_run (a0 : Prgm) (a1 : Int) (a2 : Int) : I21.run ⟨[.dat tPrgm a0, .dat tI a1, .dat tI a2], []⟩ = (cond (decide (List.length (a0.1, (a0.2.1, (a0.2.2.1, (a0.2.2.2.1, a0.2.2.2.2)))).1 ≤ 1000)) (f21h0 a2 ((List.length (timGo (a0.1, (a0.2.1, (a0.2.2.1, (a0.2.2.2.1, a0.2.2.2.2)))) 0 a1 (a0.1, (a0.2.1, (a0.2.2.1, (a0.2.2.2.1, a0.2.2.2.2)))).1) : Nat) : Int) (0 : Int) a0.1 a0.2.1 a0.2.2.1 a0.2.2.2.1 a0.2.2.2.2 ([] : List Bytes) (timGo (a0.1, (a0.2.1, (a0.2.2.1, (a0.2.2.2.1, a0.2.2.2.2)))) 0 a1 (a0.1, (a0.2.1, (a0.2.2.1, (a0.2.2.2.1, a0.2.2.2.2)))).1)) none) := (I21.run_eq _).trans (by kernel_rfl)
theorem f21h0_eq (x0 : Int) (x1 : Int) (x2 : Int) (x3 : (List Item)) (x4 : Int) (x5 : Int) (x6 : Int) (x7 : Int) (x8 : (List Bytes)) (x9 : (List Timed)) : f21h0 x0 x1 x2 x3 x4 x5 x6 x7 x8 x9 = (cond (decide (x2 < x1)) (cond (decide ((0 : Int) ≤ x2)) (cond (decide (x2 < ((List.length x9 : Nat) : Int))) (cond (decide ((Int.toNat x2) < List.length x9)) (cond (decide ((0 : Int) ≤ (0 : Int))) (cond (decide ((0 : Int) ≤ x2)) (cond (decide (x2 ≤ ((List.length x3 : Nat) : Int))) (cond (decide (List.length (List.drop (Int.toNat (0 : Int)) (List.take (Int.toNat x2) x3)) ≤ 100) && partsOk (List.drop (Int.toNat (0 : Int)) (List.take (Int.toNat x2) x3))) (cond (decide ((List.getD x9 (Int.toNat x2) (Tc.dflt tTimed)).2.2 > x0)) (cond (decide ((0 : Int) ≤ x2)) (cond (decide (x2 < ((List.length x3 : Nat) : Int))) (cond (t33a_ok (List.getD x3 (Int.toNat x2) (Tc.dflt tItem)).2.2.2 (partsR (List.drop (Int.toNat (0 : Int)) (List.take (Int.toNat x2) x3)))) (cond (t33a_0 (List.getD x3 (Int.toNat x2) (Tc.dflt tItem)).2.2.2 (partsR (List.drop (Int.toNat (0 : Int)) (List.take (Int.toNat x2) x3)))) (cond (decide ((List.length x8 + List.length ([(List.getD x9 (Int.toNat x2) (Tc.dflt tTimed)).1] : List Bytes)) * 16 ≤ 140737488355328)) (f21h0 x0 x1 (wrap .i64 (x2 + (1 : Int))) x3 x4 x5 x6 x7 (x8 ++ ([(List.getD x9 (Int.toNat x2) (Tc.dflt tTimed)).1] : List Bytes)) x9) none) (f21h0 x0 x1 (wrap .i64 (x2 + (1 : Int))) x3 x4 x5 x6 x7 x8 x9)) none) none) none) (f21h0 x0 x1 (wrap .i64 (x2 + (1 : Int))) x3 x4 x5 x6 x7 x8 x9)) none) none) none) none) none) none) none) (some ⟨[.dat (.slice .str) x8], []⟩)) := hdEq (by kernel_rfl)
theorem f47_run (a0 : Item) (a1 : Item) : I47.run ⟨[.dat tItem a0, .dat tItem a1], []⟩ = (cond (a0.1 == a1.1) (cond (a0.2.1 == a1.2.1) (cond (a0.2.2.1 == a1.2.2.1) (cond (decide (List.length a0.2.2.2 ≤ 1000)) (some ⟨[.dat .bool (a0.2.2.2 == a1.2.2.2)], []⟩) none) (some ⟨[.dat .bool false], []⟩)) (some ⟨[.dat .bool false], []⟩)) (some ⟨[.dat .bool false], []⟩)) := (I47.run_eq _).trans (by kernel_rfl)
noncomputable def f22h0 (x0 : (List Item)) (x1 : Int) (x2 : Int) (x3 : (List Item)) (x4 : Int) (x5 : Int) (x6 : Int) (x7 : Int) (x8 : (List Item)) (x9 : Int) (x10 : Int) (x11 : Int) (x12 : Int) (x13 : (List Bytes)) (x14 : (List Bytes)) : Option Fr := I22.hd 0 (mkF 72 [(2, .ptr 500 0), (3, .ptr 501 0), (7, .slc 502), (8, .nil0), (9, .slc 503), (16, .dat (.slice tItem) x0), (17, .dat tI x1), (18, .dat tI x2)] [(500, .box [.dat (.slice tItem) x3, .dat tI x4, .dat tI x5, .dat tI x6, .dat tI x7]), (501, .box [.dat (.slice tItem) x8, .dat tI x9, .dat tI x10, .dat tI x11, .dat tI x12]), (502, .arr .str x13), (503, .arr .str x14)])
noncomputable def f22h3 (x0 : (List Item)) (x1 : Int) (x2 : Int) (x3 : (List Item)) (x4 : Int) (x5 : Int) (x6 : Int) (x7 : Int) (x8 : (List Bytes)) (x9 : (List Bytes)) (x10 : (List Bytes)) : Option Fr := I22.hd 3 (mkF 72 [(2, .ptr 500 0), (7, .slc 501), (8, .slc 502), (9, .slc 503), (51, .dat (.slice tItem) x0), (52, .dat tI x1), (53, .dat tI x2)] [(500, .box [.dat (.slice tItem) x3, .dat tI x4, .dat tI x5, .dat tI x6, .dat tI x7]), (501, .arr .str x8), (502, .arr .str x9), (503, .arr .str x10)])
theorem f22_run (a0 : Prgm) (a1 : Prgm) : I22.run ⟨[.dat tPrgm a0, .dat tPrgm a1], []⟩ = (f22h0 a0.1 ((List.length a0.1 : Nat) : Int) (0 : Int) a0.1 a0.2.1 a0.2.2.1 a0.2.2.2.1 a0.2.2.2.2 a1.1 a1.2.1 a1.2.2.1 a1.2.2.2.1 a1.2.2.2.2 ([] : List Bytes) ([] : List Bytes)) := (I22.run_eq _).trans (by kernel_rfl)
theorem f22h0_eq (x0 : (List Item)) (x1 : Int) (x2 : Int) (x3 : (List Item)) (x4 : Int) (x5 : Int) (x6 : Int) (x7 : Int) (x8 : (List Item)) (x9 : Int) (x10 : Int) (x11 : Int) (x12 : Int) (x13 : (List Bytes)) (x14 : (List Bytes)) : f22h0 x0 x1 x2 x3 x4 x5 x6 x7 x8 x9 x10 x11 x12 x13 x14 = (cond (decide (x2 < x1)) (cond (decide ((0 : Int) ≤ x2)) (cond (decide (x2 < ((List.length x0 : Nat) : Int))) (cond (t19_ok x8 (List.getD x0 (Int.toNat x2) (Tc.dflt tItem)).1) (cond (decide ((t19_0 x8 (List.getD x0 (Int.toNat x2) (Tc.dflt tItem)).1) < (0 : Int))) (cond (decide ((List.length x13 + List.length ([(List.getD x0 (Int.toNat x2) (Tc.dflt tItem)).1] : List Bytes)) * 16 ≤ 140737488355328)) (f22h0 x0 x1 (wrap .i64 (x2 + (1 : Int))) x3 x4 x5 x6 x7 x8 x9 x10 x11 x12 (x13 ++ ([(List.getD x0 (Int.toNat x2) (Tc.dflt tItem)).1] : List Bytes)) x14) none) (cond (decide ((0 : Int) ≤ (t19_0 x8 (List.getD x0 (Int.toNat x2) (Tc.dflt tItem)).1))) (cond (decide ((t19_0 x8 (List.getD x0 (Int.toNat x2) (Tc.dflt tItem)).1) < ((List.length x8 : Nat) : Int))) (cond (decide (List.length ((List.getD x0 (Int.toNat x2) (Tc.dflt tItem)).1, ((List.getD x0 (Int.toNat x2) (Tc.dflt tItem)).2.1, ((List.getD x0 (Int.toNat x2) (Tc.dflt tItem)).2.2.1, (List.getD x0 (Int.toNat x2) (Tc.dflt tItem)).2.2.2))).2.2.2 ≤ 1000)) (cond (!(((List.getD x0 (Int.toNat x2) (Tc.dflt tItem)).1, ((List.getD x0 (Int.toNat x2) (Tc.dflt tItem)).2.1, ((List.getD x0 (Int.toNat x2) (Tc.dflt tItem)).2.2.1, (List.getD x0 (Int.toNat x2) (Tc.dflt tItem)).2.2.2))) == (List.getD x8 (Int.toNat (t19_0 x8 (List.getD x0 (Int.toNat x2) (Tc.dflt tItem)).1)) (Tc.dflt tItem)))) (cond (decide ((List.length x14 + List.length ([(List.getD x0 (Int.toNat x2) (Tc.dflt tItem)).1] : List Bytes)) * 16 ≤ 140737488355328)) (f22h0 x0 x1 (wrap .i64 (x2 + (1 : Int))) x3 x4 x5 x6 x7 x8 x9 x10 x11 x12 x13 (x14 ++ ([(List.getD x0 (Int.toNat x2) (Tc.dflt tItem)).1] : List Bytes))) none) (f22h0 x0 x1 (wrap .i64 (x2 + (1 : Int))) x3 x4 x5 x6 x7 x8 x9 x10 x11 x12 x13 x14)) none) none) none)) none) none) none) (f22h3 x8 ((List.length x8 : Nat) : Int) (0 : Int) x3 x4 x5 x6 x7 x13 ([] : List Bytes) x14)) := hdEq (by kernel_rfl)
theorem f22h3_eq (x0 : (List Item)) (x1 : Int) (x2 : Int) (x3 : (List Item)) (x4 : Int) (x5 : Int) (x6 : Int) (x7 : Int) (x8 : (List Bytes)) (x9 : (List Bytes)) (x10 : (List Bytes)) : f22h3 x0 x1 x2 x3 x4 x5 x6 x7 x8 x9 x10 = (cond (decide (x2 < x1)) (cond (decide ((0 : Int) ≤ x2)) (cond (decide (x2 < ((List.length x0 : Nat) : Int))) (cond (t19_ok x3 (List.getD x0 (Int.toNat x2) (Tc.dflt tItem)).1) (cond (decide ((t19_0 x3 (List.getD x0 (Int.toNat x2) (Tc.dflt tItem)).1) < (0 : Int))) (cond (decide ((List.length x9 + List.length ([(List.getD x0 (Int.toNat x2) (Tc.dflt tItem)).1] : List Bytes)) * 16 ≤ 140737488355328)) (f22h3 x0 x1 (wrap .i64 (x2 + (1 : Int))) x3 x4 x5 x6 x7 x8 (x9 ++ ([(List.getD x0 (Int.toNat x2) (Tc.dflt tItem)).1] : List Bytes)) x10) none) (f22h3 x0 x1 (wrap .i64 (x2 + (1 : Int))) x3 x4 x5 x6 x7 x8 x9 x10)) none) none) none) (some ⟨[.dat (.slice .str) x8, .dat (.slice .str) x9, .dat (.slice .str) x10], []⟩)) := hdEq (by kernel_rfl)
theorem f48_run (a0 : Prgm) : I48.run ⟨[.dat tPrgm a0], []⟩ = (cond ((checkProg isKey (a0.1, (a0.2.1, (a0.2.2.1, (a0.2.2.2.1, a0.2.2.2.2))))) != (0 : Int)) (some ⟨[.dat tI (0 : Int), .dat tI (checkProg isKey (a0.1, (a0.2.1, (a0.2.2.1, (a0.2.2.2.1, a0.2.2.2.2)))))], []⟩) (cond (decide (List.length (a0.1, (a0.2.1, (a0.2.2.1, (a0.2.2.2.1, a0.2.2.2.2)))).1 ≤ 1000)) (some ⟨[.dat tI ((begGo (a0.1, (a0.2.1, (a0.2.2.1, (a0.2.2.2.1, a0.2.2.2.2)))) 0 0 (a0.1, (a0.2.1, (a0.2.2.1, (a0.2.2.2.1, a0.2.2.2.2)))).1).2), .dat tI (0 : Int)], []⟩) none)) := (I48.run_eq _).trans (by kernel_rfl)
theorem f24_run  : I24.run ⟨[], []⟩ = (cond (((longP (([([97], ([112], ((7 : Int), ([[97, 108, 116, 111]] : List Bytes))))] : List Item), ((0 : Int), ((0 : Int), ((0 : Int), (-1 : Int)))))).2) == (0 : Int)) (some ⟨[.dat .bool (((longP (([([97], ([112], ((7 : Int), ([[97, 108, 116, 111]] : List Bytes))))] : List Item), ((0 : Int), ((0 : Int), ((0 : Int), (-1 : Int)))))).1) == (7 : Int))], []⟩) (some ⟨[.dat .bool false], []⟩)) := (I24.run_eq _).trans (by kernel_rfl)
theorem f3_run (a0 : (List Int)) : I3.run ⟨[.dat (.slice tI) a0], []⟩ = (cond (atOk 2000 (0 : Int) && decide ((4 : Int) ≤ 5) && decide ((5 : Int) ≤ 5)) (cond (atOk 2000 (aProg a0 0 5).1 && decide ((4 : Int) ≤ 4) && decide ((4 : Int) ≤ 5)) (cond (t5_ok a0 (aProg a0 (aProg a0 0 5).1 4).1)   (lawB a0 (aProg a0 0 5).2 (aProg a0 (aProg a0 0 5).1 4).2 (t5_0 a0 (aProg a0 (aProg a0 0 5).1 4).1) (t5_1 a0 (aProg a0 (aProg a0 0 5).1 4).1)) none) none) none) := (I3.run_eq _).trans (by kernel_rfl)
end Go.Ev.N

set_option linter.unusedVariables false
set_option linter.unusedSimpArgs false
set_option maxRecDepth 100000
namespace Go.Ev.N
open Go Go.Ev Go.Proofs
theorem mo : Tryz.prog.follows .mixedOrders = true := by kernel_rfl
theorem e0 : EnvOk Tryz.prog En0 := env_nil (by kernel_rfl)
def R28 : Prop := ∀ (a0 : Int) (a1 : Int), (true) = true → I28.run ⟨[.dat tI a0, .dat tI a1], []⟩ = some ⟨[.dat tI (below a0 a1)], []⟩
theorem sd28 (hE : EnvOk Tryz.prog En0) (h : R28) : EnvOk Tryz.prog En28 := env_add hE (gen_sound I28 hE mo Tryz.func28 rfl rfl (fun x hx => h x.1 x.2.1 hx))
def R10 : Prop := ∀ (a0 : Int) (L : (List Int)) (at_ : Int), (atOk 1 at_) = true → I10.run ⟨[.ptr 0 0, .dat tI a0], [(0, .box [.dat (.slice tI) L, .dat tI at_])]⟩ = some ⟨[.dat tI (next L at_ a0)], [(0, .box [.dat (.slice tI) (L), .dat tI (nextAt at_)])]⟩
theorem sd10 (hE : EnvOk Tryz.prog En28) (h : R10) : EnvOk Tryz.prog En10 := env_add hE (gen_sound I10 hE mo Tryz.func10 rfl rfl (fun x hx => h x.1 x.2.1 x.2.2.1 hx))
def R6 : Prop := ∀ (a0 : (List Bytes)) (L : (List Int)) (at_ : Int), (atOk 1 at_ && decide (0 < List.length a0) && decide (List.length a0 ≤ 1000)) = true → I6.run ⟨[.ptr 0 0, .dat (.slice .str) a0], [(0, .box [.dat (.slice tI) L, .dat tI at_])]⟩ = some ⟨[.dat .str (some_ L at_ a0)], [(0, .box [.dat (.slice tI) (L), .dat tI (nextAt at_)])]⟩
theorem sd6 (hE : EnvOk Tryz.prog En10) (h : R6) : EnvOk Tryz.prog En6 := env_add hE (gen_sound I6 hE mo Tryz.func6 rfl rfl (fun x hx => h x.1 x.2.1 x.2.2.1 hx))
def R8 : Prop := ∀ (a0 : Int) (L : (List Int)) (at_ : Int), (atOk 1 at_) = true → I8.run ⟨[.ptr 0 0, .dat tI a0], [(0, .box [.dat (.slice tI) L, .dat tI at_])]⟩ = some ⟨[.dat .bool (next L at_ a0 == 0)], [(0, .box [.dat (.slice tI) (L), .dat tI (nextAt at_)])]⟩
theorem sd8 (hE : EnvOk Tryz.prog En6) (h : R8) : EnvOk Tryz.prog En8 := env_add hE (gen_sound I8 hE mo Tryz.func8 rfl rfl (fun x hx => h x.1 x.2.1 x.2.2.1 hx))
def R7 : Prop := ∀ (a0 : (List Int)) (L : (List Int)) (at_ : Int), (atOk 1 at_ && decide (0 < List.length a0) && decide (List.length a0 ≤ 1000)) = true → I7.run ⟨[.ptr 0 0, .dat (.slice tI) a0], [(0, .box [.dat (.slice tI) L, .dat tI at_])]⟩ = some ⟨[.dat tI (pick L at_ a0)], [(0, .box [.dat (.slice tI) (L), .dat tI (nextAt at_)])]⟩
theorem sd7 (hE : EnvOk Tryz.prog En8) (h : R7) : EnvOk Tryz.prog En7 := env_add hE (gen_sound I7 hE mo Tryz.func7 rfl rfl (fun x hx => h x.1 x.2.1 x.2.2.1 hx))
def R25 : Prop := ∀ (a0 : Int) (L : (List Int)) (at_ : Int), (atOk 1000 at_ && decide (0 ≤ a0) && decide (a0 ≤ 5)) = true → I25.run ⟨[.ptr 0 0, .dat tI a0], [(0, .box [.dat (.slice tI) L, .dat tI at_])]⟩ = some ⟨[.agg [.slc 2, .dat tI ((rightP L at_ a0).2.2.1), .dat tI ((rightP L at_ a0).2.2.2.1), .dat tI ((rightP L at_ a0).2.2.2.2.1), .dat tI ((rightP L at_ a0).2.2.2.2.2)]], [(0, .box [.dat (.slice tI) (L), .dat tI ((rightP L at_ a0).1)]), (2, .arr tItem ((rightP L at_ a0).2.1))]⟩
theorem sd25 (hE : EnvOk Tryz.prog En7) (h : R25) : EnvOk Tryz.prog En25 := env_add hE (gen_sound I25 hE mo Tryz.func25 rfl rfl (fun x hx => h x.1 x.2.1 x.2.2.1 hx))
def R49 : Prop := ∀ (a0 : Int) (a1 : Int) (L : (List Int)) (at_ : Int), (atOk 1 at_) = true → I49.run ⟨[.ptr 0 0, .dat tI a0, .dat tI a1], [(0, .box [.dat (.slice tI) L, .dat tI at_])]⟩ = some ⟨[.dat tI (rangeS L at_ a0 a1)], [(0, .box [.dat (.slice tI) (L), .dat tI (rangeAt at_ a0 a1)])]⟩
theorem sd49 (hE : EnvOk Tryz.prog En25) (h : R49) : EnvOk Tryz.prog En49 := env_add hE (gen_sound I49 hE mo Tryz.func49 rfl rfl (fun x hx => h x.1 x.2.1 x.2.2.1 x.2.2.2.1 hx))
def R26 : Prop := ∀ (a0 : Int) (a1 : Int) (L : (List Int)) (at_ : Int), (atOk 8 at_) = true → I26.run ⟨[.ptr 0 0, .dat tI a0, .dat tI a1], [(0, .box [.dat (.slice tI) L, .dat tI at_])]⟩ = some ⟨[.dat tI ((oddS L at_ a0 a1).2)], [(0, .box [.dat (.slice tI) (L), .dat tI ((oddS L at_ a0 a1).1)])]⟩
theorem sd26 (hE : EnvOk Tryz.prog En49) (h : R26) : EnvOk Tryz.prog En26 := env_add hE (gen_sound I26 hE mo Tryz.func26 rfl rfl (fun x hx => h x.1 x.2.1 x.2.2.1 x.2.2.2.1 hx))
def R27 : Prop := ∀ (a0 : (List Bytes)), (decide (List.length a0 ≤ 1000)) = true → I27.run ⟨[.dat (.slice .str) a0], []⟩ = some ⟨[.slc 0], [(0, .arr .str (a0))]⟩
theorem sd27 (hE : EnvOk Tryz.prog En26) (h : R27) : EnvOk Tryz.prog En27 := env_add hE (gen_sound I27 hE mo Tryz.func27 rfl rfl (fun x hx => h x.1 hx))
def R4 : Prop := ∀ (a0 : Int) (L : (List Int)) (at_ : Int), (atOk 2000 at_ && decide (4 ≤ a0) && decide (a0 ≤ 5)) = true → I4.run ⟨[.ptr 0 0, .dat tI a0], [(0, .box [.dat (.slice tI) L, .dat tI at_])]⟩ = some ⟨[.dat tPrgm ((aProg L at_ a0).2)], [(0, .box [.dat (.slice tI) (L), .dat tI ((aProg L at_ a0).1)])]⟩
theorem sd4 (hE : EnvOk Tryz.prog En27) (h : R4) : EnvOk Tryz.prog En4 := env_add hE (gen_sound I4 hE mo Tryz.func4 rfl rfl (fun x hx => h x.1 x.2.1 x.2.2.1 hx))
def R5 : Prop := ∀ (L : (List Int)) (at_ : Int), (t5_ok L at_) = true → I5.run ⟨[.ptr 0 0], [(0, .box [.dat (.slice tI) L, .dat tI at_])]⟩ = some ⟨[.dat tI (t5_0 L at_)], [(0, .box [.dat (.slice tI) L, .dat tI (t5_1 L at_)])]⟩
theorem sd5 (hE : EnvOk Tryz.prog En4) (h : R5) : EnvOk Tryz.prog En5 := env_add hE (gen_sound I5 hE mo Tryz.func5 rfl rfl (fun x hx => h x.1 x.2.1 hx))
theorem rt5 (L : (List Int)) (at_ : Int) : I5.run ⟨[.ptr 0 0], [(0, .box [.dat (.slice tI) L, .dat tI at_])]⟩ = (t5 L at_).map (fun r => ⟨[.dat tI r.1], [(0, .box [.dat (.slice tI) L, .dat tI r.2])]⟩) := by
  rw [f5_run L at_]
  unfold t5
  simp only [omap_cond, Option.map_some, Option.map_none]
theorem r5 : R5 := by
  intro L at_ h
  obtain ⟨r, hr⟩ := Option.isSome_iff_exists.1 h
  rw [rt5, hr]
  unfold t5_0 t5_1
  rw [hr]; rfl
def R9 : Prop := ∀ (a0 : (List Item)), (decide (List.length a0 ≤ 1000)) = true → I9.run ⟨[.dat (.slice tItem) a0], []⟩ = some ⟨[.slc 0], [(0, .arr tItem (a0))]⟩
theorem sd9 (hE : EnvOk Tryz.prog En5) (h : R9) : EnvOk Tryz.prog En9 := env_add hE (gen_sound I9 hE mo Tryz.func9 rfl rfl (fun x hx => h x.1 hx))
def R51 : Prop := ∀ (a0 : Int) (a1 : Int) (a2 : Int), (true) = true → I51.run ⟨[.dat tI a0, .dat tI a1, .dat tI a2], []⟩ = some ⟨[.dat .bool (outside a0 a1 a2)], []⟩
theorem sd51 (hE : EnvOk Tryz.prog En9) (h : R51) : EnvOk Tryz.prog En51 := env_add hE (gen_sound I51 hE mo Tryz.func51 rfl rfl (fun x hx => h x.1 x.2.1 x.2.2.1 hx))
def R31 : Prop := ∀ (a0 : Int), (true) = true → I31.run ⟨[.dat tI a0], []⟩ = some ⟨[.dat .bool (t31_0 a0)], []⟩
theorem sd31 (hE : EnvOk Tryz.prog En51) (h : R31) : EnvOk Tryz.prog En31 := env_add hE (gen_sound I31 hE mo Tryz.func31 rfl rfl (fun x hx => h x.1 hx))
theorem r31 : R31 := by
  intro a0 _
  exact f31_run a0
def R61 : Prop := ∀ (a0 : Prgm) (a1 : Item) (a2 : Item), (true) = true → I61.run ⟨[.dat tPrgm a0, .dat tItem a1, .dat tItem a2], []⟩ = some ⟨[.dat tI (t61_0 a0 a1 a2)], []⟩
theorem sd61 (hE : EnvOk Tryz.prog En31) (h : R61) : EnvOk Tryz.prog En61 := env_add hE (gen_sound I61 hE mo Tryz.func61 rfl rfl (fun x hx => h x.1 x.2.1 x.2.2.1 hx))
theorem r61 : R61 := by
  intro a0 a1 a2 _
  rw [f61_run a0 a1 a2]
  unfold t61_0 t61
  cases h2 : (!(a1.2.1 == a2.2.1)) with
  | true =>
    simp only [cond_true]
    all_goals rfl
  | false =>
    simp only [cond_false]
    all_goals rfl
def R52 : Prop := ∀ (a0 : Prgm) (a1 : Int), (decide (0 ≤ a1) && decide (a1 + 1 < (List.length a0.1 : Int)) && decide (List.length a0.1 ≤ 1000)) = true → I52.run ⟨[.dat tPrgm a0, .dat tI a1], []⟩ = some ⟨[.dat tI (behindF a0 a1)], []⟩
theorem sd52 (hE : EnvOk Tryz.prog En61) (h : R52) : EnvOk Tryz.prog En52 := env_add hE (gen_sound I52 hE mo Tryz.func52 rfl rfl (fun x hx => h x.1 x.2.1 hx))
def R32 : Prop := ∀ (a0 : Prgm), (decide (List.length a0.1 ≤ 1000)) = true → I32.run ⟨[.dat tPrgm a0], []⟩ = some ⟨[.slc 0, .dat tI ((begGo a0 0 0 a0.1).2)], [(0, .arr tI ((begGo a0 0 0 a0.1).1))]⟩
theorem sd32 (hE : EnvOk Tryz.prog En52) (h : R32) : EnvOk Tryz.prog En32 := env_add hE (gen_sound I32 hE mo Tryz.func32 rfl rfl (fun x hx => h x.1 hx))
def R64 : Prop := ∀ (a0 : Item) (k : Bytes) (pl : Bytes) (lg : Int) (ps : (List Bytes)), (true) = true → I64.run ⟨[.dat tItem a0, .ptr 0 0], [(0, .box [.dat .str k, .dat .str pl, .dat tI lg, .dat (.slice .str) ps])]⟩ = some ⟨[.dat .bool (t64_0 a0 k pl lg ps)], [(0, .box [.dat .str k, .dat .str pl, .dat tI lg, .dat (.slice .str) ps])]⟩
theorem sd64 (hE : EnvOk Tryz.prog En32) (h : R64) : EnvOk Tryz.prog En64 := env_add hE (gen_sound I64 hE mo Tryz.func64 rfl rfl (fun x hx => h x.1 x.2.1 x.2.2.1 x.2.2.2.1 x.2.2.2.2.1 hx))
theorem r64 : R64 := by
  intro a0 k pl lg ps _
  exact f64_run a0 k pl lg ps
def R41 : Prop := ∀ (a0 : (List Item)) (k : Bytes) (pl : Bytes) (lg : Int) (ps : (List Bytes)), (decide (List.length a0 ≤ 1000)) = true → I41.run ⟨[.dat (.slice tItem) a0, .clos 64 [.ptr 0 0]], [(0, .box [.dat .str k, .dat .str pl, .dat tI lg, .dat (.slice .str) ps])]⟩ = some ⟨[.dat tI (idxBy (fun o => t64_0 o k pl lg ps) a0 0)], [(0, .box [.dat .str (k), .dat .str (pl), .dat tI (lg), .dat (.slice .str) (ps)])]⟩
theorem sd41 (hE : EnvOk Tryz.prog En64) (h : R41) : EnvOk Tryz.prog En41 := env_add hE (gen_sound I41 hE mo Tryz.func41 rfl rfl (fun x hx => h x.1 x.2.1 x.2.2.1 x.2.2.2.1 x.2.2.2.2.1 hx))
def R63 : Prop := ∀ (a0 : (List Item)) (k : Bytes) (pl : Bytes) (lg : Int) (ps : (List Bytes)), (t63_ok a0 k pl lg ps) = true → I63.run ⟨[.dat (.slice tItem) a0, .clos 64 [.ptr 0 0]], [(0, .box [.dat .str k, .dat .str pl, .dat tI lg, .dat (.slice .str) ps])]⟩ = some ⟨[.dat .bool (t63_0 a0 k pl lg ps)], [(0, .box [.dat .str k, .dat .str pl, .dat tI lg, .dat (.slice .str) ps])]⟩
theorem sd63 (hE : EnvOk Tryz.prog En41) (h : R63) : EnvOk Tryz.prog En63 := env_add hE (gen_sound I63 hE mo Tryz.func63 rfl rfl (fun x hx => h x.1 x.2.1 x.2.2.1 x.2.2.2.1 x.2.2.2.2.1 hx))
theorem rt63 (a0 : (List Item)) (k : Bytes) (pl : Bytes) (lg : Int) (ps : (List Bytes)) : I63.run ⟨[.dat (.slice tItem) a0, .clos 64 [.ptr 0 0]], [(0, .box [.dat .str k, .dat .str pl, .dat tI lg, .dat (.slice .str) ps])]⟩ = (t63 a0 k pl lg ps).map (fun r => ⟨[.dat .bool r], [(0, .box [.dat .str k, .dat .str pl, .dat tI lg, .dat (.slice .str) ps])]⟩) := by
  rw [f63_run a0 k pl lg ps]
  unfold t63
  simp only [omap_cond, Option.map_some, Option.map_none]
theorem r63 : R63 := by
  intro a0 k pl lg ps h
  obtain ⟨r, hr⟩ := Option.isSome_iff_exists.1 h
  rw [rt63, hr]
  unfold t63_0
  rw [hr]; rfl
def R69 : Prop := Sound Tryz.prog En0.gl 69 S69 ∧ Enters Tryz.prog 69
theorem sd69 (hE : EnvOk Tryz.prog En63) (h : R69) : EnvOk Tryz.prog En69 := env_add hE (h)
def R70 : Prop := Sound Tryz.prog En0.gl 70 S70 ∧ Enters Tryz.prog 70
theorem sd70 (hE : EnvOk Tryz.prog En69) (h : R70) : EnvOk Tryz.prog En70 := env_add hE (h)
def R62 : Prop := ∀ (a0 : Bytes), (true) = true → I62.run ⟨[.dat .str a0], []⟩ = some ⟨[.dat .bool (isKey a0)], []⟩
theorem sd62 (hE : EnvOk Tryz.prog En70) (h : R62) : EnvOk Tryz.prog En62 := env_add hE (gen_sound I62 hE mo Tryz.func62 rfl rfl (fun x hx => h x.1 hx))
def R65 : Prop := ∀ (a0 : (List Bytes)), (true) = true → I65.run ⟨[.dat (.slice .str) a0], []⟩ = some ⟨[.dat tI (partsF isKey a0)], []⟩
theorem sd65 (hE : EnvOk Tryz.prog En62) (h : R65) : EnvOk Tryz.prog En65 := env_add hE (gen_sound I65 hE mo Tryz.func65 rfl rfl (fun x hx => h x.1 hx))
def R54 : Prop := ∀ (a0 : (List Item)), (true) = true → I54.run ⟨[.dat (.slice tItem) a0], []⟩ = some ⟨[.dat tI (checkItems isKey a0)], []⟩
theorem sd54 (hE : EnvOk Tryz.prog En65) (h : R54) : EnvOk Tryz.prog En54 := env_add hE (gen_sound I54 hE mo Tryz.func54 rfl rfl (fun x hx => h x.1 hx))
def R35 : Prop := ∀ (a0 : Prgm), (true) = true → I35.run ⟨[.dat tPrgm a0], []⟩ = some ⟨[.dat tI (checkProg isKey a0)], []⟩
theorem sd35 (hE : EnvOk Tryz.prog En54) (h : R35) : EnvOk Tryz.prog En35 := env_add hE (gen_sound I35 hE mo Tryz.func35 rfl rfl (fun x hx => h x.1 hx))
def R29 : Prop := ∀ (a0 : Prgm) (a1 : Int), (true) = true → I29.run ⟨[.dat tPrgm a0, .dat tI a1], []⟩ = some ⟨[.dat tI (fromF a0 a1)], []⟩
theorem sd29 (hE : EnvOk Tryz.prog En35) (h : R29) : EnvOk Tryz.prog En29 := env_add hE (gen_sound I29 hE mo Tryz.func29 rfl rfl (fun x hx => h x.1 x.2.1 hx))
def R50 : Prop := ∀ (a0 : Item) (k : Bytes), (true) = true → I50.run ⟨[.dat tItem a0, .ptr 0 0], [(0, .box [.dat .str k])]⟩ = some ⟨[.dat .bool (t50_0 a0 k)], [(0, .box [.dat .str k])]⟩
theorem sd50 (hE : EnvOk Tryz.prog En29) (h : R50) : EnvOk Tryz.prog En50 := env_add hE (gen_sound I50 hE mo Tryz.func50 rfl rfl (fun x hx => h x.1 x.2.1 hx))
theorem r50 : R50 := by
  intro a0 k _
  exact f50_run a0 k
def R41a : Prop := ∀ (a0 : (List Item)) (k : Bytes), (decide (List.length a0 ≤ 1000)) = true → I41a.run ⟨[.dat (.slice tItem) a0, .clos 50 [.ptr 0 0]], [(0, .box [.dat .str k])]⟩ = some ⟨[.dat tI (idxBy (fun o => t50_0 o k) a0 0)], [(0, .box [.dat .str (k)])]⟩
theorem sd41a (hE : EnvOk Tryz.prog En50) (h : R41a) : EnvOk Tryz.prog En41a := env_or hE rfl (gen_sound I41a hE mo Tryz.func41 rfl rfl (fun x hx => h x.1 x.2.1 hx))
def R30 : Prop := ∀ (a0 : Prgm) (a1 : Bytes), (t30_ok a0 a1) = true → I30.run ⟨[.dat tPrgm a0, .dat .str a1], []⟩ = some ⟨[.dat tI (t30_0 a0 a1)], []⟩
theorem sd30 (hE : EnvOk Tryz.prog En41a) (h : R30) : EnvOk Tryz.prog En30 := env_add hE (gen_sound I30 hE mo Tryz.func30 rfl rfl (fun x hx => h x.1 x.2.1 hx))
theorem rt30 (a0 : Prgm) (a1 : Bytes) : I30.run ⟨[.dat tPrgm a0, .dat .str a1], []⟩ = (t30 a0 a1).map (fun r => ⟨[.dat tI r], []⟩) := by
  rw [f30_run a0 a1]
  unfold t30
  simp only [omap_cond, Option.map_some, Option.map_none]
theorem r30 : R30 := by
  intro a0 a1 h
  obtain ⟨r, hr⟩ := Option.isSome_iff_exists.1 h
  rw [rt30, hr]
  unfold t30_0
  rw [hr]; rfl
def R11 : Prop := ∀ (a0 : Prgm) (a1 : Int) (a2 : Bytes) (a3 : Int), (true) = true → I11.run ⟨[.dat tPrgm a0, .dat tI a1, .dat .str a2, .dat tI a3], []⟩ = some ⟨[.dat tI ((lateF a0 a1 a2 a3).1), .dat tI ((lateF a0 a1 a2 a3).2)], []⟩
theorem sd11 (hE : EnvOk Tryz.prog En30) (h : R11) : EnvOk Tryz.prog En11 := env_add hE (gen_sound I11 hE mo Tryz.func11 rfl rfl (fun x hx => h x.1 x.2.1 x.2.2.1 x.2.2.2.1 hx))
def R34 : Prop := ∀ (a0 : Bytes) (es : (List (Bytes × Bool))), (true) = true → I34.run ⟨[.dat .str a0, .ptr 0 0], [(0, .box [.mp 1]), (1, .map .str .bool es)]⟩ = some ⟨[.dat .bool (t34_0 a0 es)], [(0, .box [.mp 1]), (1, .map .str .bool es)]⟩
theorem sd34 (hE : EnvOk Tryz.prog En11) (h : R34) : EnvOk Tryz.prog En34 := env_add hE (gen_sound I34 hE mo Tryz.func34 rfl rfl (fun x hx => h x.1 x.2.1 hx))
theorem r34 : R34 := by
  intro a0 es _
  exact f34_run a0 es
def R53 : Prop := ∀ (a0 : (List Bytes)) (es : (List (Bytes × Bool))), (decide (List.length a0 ≤ 1000)) = true → I53.run ⟨[.dat (.slice .str) a0, .clos 34 [.ptr 0 0]], [(0, .box [.mp 1]), (1, .map .str .bool es)]⟩ = some ⟨[.dat tI (idxBy (fun o => t34_0 o es) a0 0)], [(0, .box [.mp 1]), (1, .map .str .bool (es))]⟩
theorem sd53 (hE : EnvOk Tryz.prog En34) (h : R53) : EnvOk Tryz.prog En53 := env_add hE (gen_sound I53 hE mo Tryz.func53 rfl rfl (fun x hx => h x.1 x.2.1 hx))
def R33 : Prop := ∀ (a0 : (List Bytes)) (es : (List (Bytes × Bool))), (t33_ok a0 es) = true → I33.run ⟨[.dat (.slice .str) a0, .clos 34 [.ptr 0 0]], [(0, .box [.mp 1]), (1, .map .str .bool es)]⟩ = some ⟨[.dat .bool (t33_0 a0 es)], [(0, .box [.mp 1]), (1, .map .str .bool es)]⟩
theorem sd33 (hE : EnvOk Tryz.prog En53) (h : R33) : EnvOk Tryz.prog En33 := env_add hE (gen_sound I33 hE mo Tryz.func33 rfl rfl (fun x hx => h x.1 x.2.1 hx))
theorem rt33 (a0 : (List Bytes)) (es : (List (Bytes × Bool))) : I33.run ⟨[.dat (.slice .str) a0, .clos 34 [.ptr 0 0]], [(0, .box [.mp 1]), (1, .map .str .bool es)]⟩ = (t33 a0 es).map (fun r => ⟨[.dat .bool r], [(0, .box [.mp 1]), (1, .map .str .bool es)]⟩) := by
  rw [f33_run a0 es]
  unfold t33
  simp only [omap_cond, Option.map_some, Option.map_none]
theorem r33 : R33 := by
  intro a0 es h
  obtain ⟨r, hr⟩ := Option.isSome_iff_exists.1 h
  rw [rt33, hr]
  unfold t33_0
  rw [hr]; rfl
def R12 : Prop := ∀ (a0 : Prgm) (a1 : Int) (a2 : Int), (true) = true → I12.run ⟨[.dat tPrgm a0, .dat tI a1, .dat tI a2], []⟩ = some ⟨[.dat (.slice .str) ((leavesF a0 a1 a2).1), .dat tI ((leavesF a0 a1 a2).2)], []⟩
theorem sd12 (hE : EnvOk Tryz.prog En33) (h : R12) : EnvOk Tryz.prog En12 := env_add hE (gen_sound I12 hE mo Tryz.func12 rfl rfl (fun x hx => h x.1 x.2.1 x.2.2.1 hx))
def R23 : Prop := ∀ (a0 : (List Bytes)) (a1 : (List Bytes)), (decide (List.length a0 ≤ 1000)) = true → I23.run ⟨[.dat (.slice .str) a0, .dat (.slice .str) a1], []⟩ = some ⟨[.dat .bool (a0 == a1)], []⟩
theorem sd23 (hE : EnvOk Tryz.prog En12) (h : R23) : EnvOk Tryz.prog En23 := env_add hE (gen_sound I23 hE mo Tryz.func23 rfl rfl (fun x hx => h x.1 x.2.1 hx))
def R36 : Prop := ∀ (a0 : Item) (a1 : Item), (decide (List.length a0.2.2.2 ≤ 1000)) = true → I36.run ⟨[.dat tItem a0, .dat tItem a1], []⟩ = some ⟨[.dat .bool (sameF a0 a1)], []⟩
theorem sd36 (hE : EnvOk Tryz.prog En23) (h : R36) : EnvOk Tryz.prog En36 := env_add hE (gen_sound I36 hE mo Tryz.func36 rfl rfl (fun x hx => h x.1 x.2.1 hx))
def R13 : Prop := ∀ (a0 : Prgm) (a1 : Prgm), (true) = true → I13.run ⟨[.dat tPrgm a0, .dat tPrgm a1], []⟩ = some ⟨[.dat (.slice .str) ((difF a0 a1).1), .dat (.slice .str) ((difF a0 a1).2.1), .dat (.slice .str) ((difF a0 a1).2.2.1), .dat tI ((difF a0 a1).2.2.2)], []⟩
theorem sd13 (hE : EnvOk Tryz.prog En36) (h : R13) : EnvOk Tryz.prog En13 := env_add hE (gen_sound I13 hE mo Tryz.func13 rfl rfl (fun x hx => h x.1 x.2.1 hx))
def R42 : Prop := ∀ (a0 : Item) (k : Bytes), (true) = true → I42.run ⟨[.dat tItem a0, .ptr 0 0], [(0, .box [.dat .str k])]⟩ = some ⟨[.dat .bool (t42_0 a0 k)], [(0, .box [.dat .str k])]⟩
theorem sd42 (hE : EnvOk Tryz.prog En13) (h : R42) : EnvOk Tryz.prog En42 := env_add hE (gen_sound I42 hE mo Tryz.func42 rfl rfl (fun x hx => h x.1 x.2.1 hx))
theorem r42 : R42 := by
  intro a0 k _
  exact f42_run a0 k
def R41b : Prop := ∀ (a0 : (List Item)) (k : Bytes), (decide (List.length a0 ≤ 1000)) = true → I41b.run ⟨[.dat (.slice tItem) a0, .clos 42 [.ptr 0 0]], [(0, .box [.dat .str k])]⟩ = some ⟨[.dat tI (idxBy (fun o => t42_0 o k) a0 0)], [(0, .box [.dat .str (k)])]⟩
theorem sd41b (hE : EnvOk Tryz.prog En42) (h : R41b) : EnvOk Tryz.prog En41b := env_or hE rfl (gen_sound I41b hE mo Tryz.func41 rfl rfl (fun x hx => h x.1 x.2.1 hx))
def R19 : Prop := ∀ (a0 : (List Item)) (a1 : Bytes), (t19_ok a0 a1) = true → I19.run ⟨[.dat (.slice tItem) a0, .dat .str a1], []⟩ = some ⟨[.dat tI (t19_0 a0 a1)], []⟩
theorem sd19 (hE : EnvOk Tryz.prog En41b) (h : R19) : EnvOk Tryz.prog En19 := env_add hE (gen_sound I19 hE mo Tryz.func19 rfl rfl (fun x hx => h x.1 x.2.1 hx))
theorem rt19 (a0 : (List Item)) (a1 : Bytes) : I19.run ⟨[.dat (.slice tItem) a0, .dat .str a1], []⟩ = (t19 a0 a1).map (fun r => ⟨[.dat tI r], []⟩) := by
  rw [f19_run a0 a1]
  unfold t19
  simp only [omap_cond, Option.map_some, Option.map_none]
theorem r19 : R19 := by
  intro a0 a1 h
  obtain ⟨r, hr⟩ := Option.isSome_iff_exists.1 h
  rw [rt19, hr]
  unfold t19_0
  rw [hr]; rfl
def R38 : Prop := ∀ (a0 : Int) (a1 : Int) (a2 : Int), (true) = true → I38.run ⟨[.dat tI a0, .dat tI a1, .dat tI a2], []⟩ = some ⟨[.dat .bool (inR a0 a1 a2)], []⟩
theorem sd38 (hE : EnvOk Tryz.prog En19) (h : R38) : EnvOk Tryz.prog En38 := env_add hE (gen_sound I38 hE mo Tryz.func38 rfl rfl (fun x hx => h x.1 x.2.1 x.2.2.1 hx))
def R66 : Prop := ∀ (a0 : Bytes) (a1 : Bytes), (decide (List.length a0 ≤ 1000000)) = true → I66.run ⟨[.dat .str a0, .dat .str a1], []⟩ = some ⟨[.dat .bool (onlyB a0 a1)], []⟩
theorem sd66 (hE : EnvOk Tryz.prog En38) (h : R66) : EnvOk Tryz.prog En66 := env_add hE (gen_sound I66 hE mo Tryz.func66 rfl rfl (fun x hx => h x.1 x.2.1 hx))
def R55 : Prop := ∀ (a0 : Bytes), (true) = true → I55.run ⟨[.dat .str a0], []⟩ = some ⟨[.dat .bool (keyR a0)], []⟩
theorem sd55 (hE : EnvOk Tryz.prog En66) (h : R55) : EnvOk Tryz.prog En55 := env_add hE (gen_sound I55 hE mo Tryz.func55 rfl rfl (fun x hx => h x.1 hx))
def R56 : Prop := ∀ (a0 : (List Bytes)), (decide (List.length a0 ≤ 1000)) = true → I56.run ⟨[.dat (.slice .str) a0], []⟩ = some ⟨[.dat tI (risingGo keyR none a0)], []⟩
theorem sd56 (hE : EnvOk Tryz.prog En55) (h : R56) : EnvOk Tryz.prog En56 := env_add hE (gen_sound I56 hE mo Tryz.func56 rfl rfl (fun x hx => h x.1 hx))
def R37 : Prop := ∀ (a0 : (List Item)), (true) = true → I37.run ⟨[.dat (.slice tItem) a0], []⟩ = some ⟨[.dat tI (checkItems keyR a0)], []⟩
theorem sd37 (hE : EnvOk Tryz.prog En56) (h : R37) : EnvOk Tryz.prog En37 := env_add hE (gen_sound I37 hE mo Tryz.func37 rfl rfl (fun x hx => h x.1 hx))
def R14 : Prop := ∀ (a0 : Prgm), (true) = true → I14.run ⟨[.dat tPrgm a0], []⟩ = some ⟨[.dat tI (checkProg keyR a0)], []⟩
theorem sd14 (hE : EnvOk Tryz.prog En37) (h : R14) : EnvOk Tryz.prog En14 := env_add hE (gen_sound I14 hE mo Tryz.func14 rfl rfl (fun x hx => h x.1 hx))
def R39 : Prop := ∀ (a0 : Int), (true) = true → I39.run ⟨[.dat tI a0], []⟩ = some ⟨[.dat .bool (t39_0 a0)], []⟩
theorem sd39 (hE : EnvOk Tryz.prog En14) (h : R39) : EnvOk Tryz.prog En39 := env_add hE (gen_sound I39 hE mo Tryz.func39 rfl rfl (fun x hx => h x.1 hx))
theorem r39 : R39 := by
  intro a0 _
  exact f39_run a0
def R57 : Prop := ∀ (a0 : Prgm) (a1 : Int), (decide (0 ≤ a1) && decide (a1 + 1 < (List.length a0.1 : Int)) && decide (List.length a0.1 ≤ 1000)) = true → I57.run ⟨[.dat tPrgm a0, .dat tI a1], []⟩ = some ⟨[.dat tI (behindF a0 a1)], []⟩
theorem sd57 (hE : EnvOk Tryz.prog En39) (h : R57) : EnvOk Tryz.prog En57 := env_add hE (gen_sound I57 hE mo Tryz.func57 rfl rfl (fun x hx => h x.1 x.2.1 hx))
def R43 : Prop := ∀ (a0 : Prgm) (a1 : Int), (decide (List.length a0.1 ≤ 1000)) = true → I43.run ⟨[.dat tPrgm a0, .dat tI a1], []⟩ = some ⟨[.slc 0], [(0, .arr tTimed (timGo a0 0 a1 a0.1))]⟩
theorem sd43 (hE : EnvOk Tryz.prog En57) (h : R43) : EnvOk Tryz.prog En43 := env_add hE (gen_sound I43 hE mo Tryz.func43 rfl rfl (fun x hx => h x.1 x.2.1 hx))
def R40 : Prop := ∀ (a0 : Prgm), (decide (List.length a0.1 ≤ 1000)) = true → I40.run ⟨[.dat tPrgm a0], []⟩ = some ⟨[.dat tI (longR a0)], []⟩
theorem sd40 (hE : EnvOk Tryz.prog En43) (h : R40) : EnvOk Tryz.prog En40 := env_add hE (gen_sound I40 hE mo Tryz.func40 rfl rfl (fun x hx => h x.1 hx))
def R15 : Prop := ∀ (a0 : Prgm) (a1 : Int), (decide (List.length a0.1 ≤ 1000)) = true → I15.run ⟨[.dat tPrgm a0, .dat tI a1], []⟩ = some ⟨[.dat tI (beginF a0 a1)], []⟩
theorem sd15 (hE : EnvOk Tryz.prog En40) (h : R15) : EnvOk Tryz.prog En15 := env_add hE (gen_sound I15 hE mo Tryz.func15 rfl rfl (fun x hx => h x.1 x.2.1 hx))
def R16 : Prop := ∀ (a0 : (List Int)), (decide (List.length a0 ≤ 1000)) = true → I16.run ⟨[.dat (.slice tI) a0], []⟩ = some ⟨[.dat tI (firstE a0)], []⟩
theorem sd16 (hE : EnvOk Tryz.prog En15) (h : R16) : EnvOk Tryz.prog En16 := env_add hE (gen_sound I16 hE mo Tryz.func16 rfl rfl (fun x hx => h x.1 hx))
def R17 : Prop := ∀ (a0 : Int), (true) = true → I17.run ⟨[.dat tI a0], []⟩ = some ⟨[.dat tI (t17_0 a0)], []⟩
theorem sd17 (hE : EnvOk Tryz.prog En16) (h : R17) : EnvOk Tryz.prog En17 := env_add hE (gen_sound I17 hE mo Tryz.func17 rfl rfl (fun x hx => h x.1 hx))
theorem r17 : R17 := by
  intro a0 _
  rw [f17_run a0]
  unfold t17_0 t17
  cases h2 : (!(t39_0 a0)) with
  | true =>
    simp only [cond_true]
    all_goals rfl
  | false =>
    simp only [cond_false]
    all_goals rfl
def R18 : Prop := ∀ (a0 : Bool) (a1 : Int), (true) = true → I18.run ⟨[.dat .bool a0, .dat tI a1], []⟩ = some ⟨[.dat tI (t18_0 a0 a1)], []⟩
theorem sd18 (hE : EnvOk Tryz.prog En17) (h : R18) : EnvOk Tryz.prog En18 := env_add hE (gen_sound I18 hE mo Tryz.func18 rfl rfl (fun x hx => h x.1 x.2.1 hx))
theorem r18 : R18 := by
  intro a0 a1 _
  rw [f18_run a0 a1]
  unfold t18_0 t18
  cases h2 : a0 with
  | true =>
    simp only [cond_true]
    all_goals rfl
  | false =>
    simp only [cond_false]
    all_goals rfl
def R20 : Prop := ∀ (a0 : Prgm) (a1 : Int) (a2 : Bytes) (a3 : Int), (decide (List.length a0.1 ≤ 1000) && decide (0 ≤ itemIx a0.1 a2)) = true → I20.run ⟨[.dat tPrgm a0, .dat tI a1, .dat .str a2, .dat tI a3], []⟩ = some ⟨[.dat tI (lateR a0 a1 a2 a3)], []⟩
theorem sd20 (hE : EnvOk Tryz.prog En18) (h : R20) : EnvOk Tryz.prog En20 := env_add hE (gen_sound I20 hE mo Tryz.func20 rfl rfl (fun x hx => h x.1 x.2.1 x.2.2.1 x.2.2.2.1 hx))
def R60 : Prop := ∀ (a0 : (List Bytes)) (a1 : Bytes), (decide (List.length a0 ≤ 1000000)) = true → I60.run ⟨[.dat (.slice .str) a0, .dat .str a1], []⟩ = some ⟨[.dat tI (idxS a1 a0 0)], []⟩
theorem sd60 (hE : EnvOk Tryz.prog En20) (h : R60) : EnvOk Tryz.prog En60 := env_add hE (gen_sound I60 hE mo Tryz.func60 rfl rfl (fun x hx => h x.1 x.2.1 hx))
def R46 : Prop := ∀ (a0 : (List Bytes)) (a1 : Bytes), (decide (List.length a0 ≤ 1000000)) = true → I46.run ⟨[.dat (.slice .str) a0, .dat .str a1], []⟩ = some ⟨[.dat .bool (hasS a0 a1)], []⟩
theorem sd46 (hE : EnvOk Tryz.prog En60) (h : R46) : EnvOk Tryz.prog En46 := env_add hE (gen_sound I46 hE mo Tryz.func46 rfl rfl (fun x hx => h x.1 x.2.1 hx))
def R45 : Prop := ∀ (a0 : Bytes) (bef : (List Bytes)), (t45_ok a0 bef) = true → I45.run ⟨[.dat .str a0, .ptr 0 0], [(0, .box [.dat (.slice .str) bef])]⟩ = some ⟨[.dat .bool (t45_0 a0 bef)], [(0, .box [.dat (.slice .str) bef])]⟩
theorem sd45 (hE : EnvOk Tryz.prog En46) (h : R45) : EnvOk Tryz.prog En45 := env_add hE (gen_sound I45 hE mo Tryz.func45 rfl rfl (fun x hx => h x.1 x.2.1 hx))
theorem rt45 (a0 : Bytes) (bef : (List Bytes)) : I45.run ⟨[.dat .str a0, .ptr 0 0], [(0, .box [.dat (.slice .str) bef])]⟩ = (t45 a0 bef).map (fun r => ⟨[.dat .bool r], [(0, .box [.dat (.slice .str) bef])]⟩) := by
  rw [f45_run a0 bef]
  unfold t45
  simp only [omap_cond, Option.map_some, Option.map_none]
theorem r45 : R45 := by
  intro a0 bef h
  obtain ⟨r, hr⟩ := Option.isSome_iff_exists.1 h
  rw [rt45, hr]
  unfold t45_0
  rw [hr]; rfl
def R53a : Prop := ∀ (a0 : (List Bytes)) (bef : (List Bytes)), (decide (List.length a0 ≤ 1000) && decide (List.length bef ≤ 1000000)) = true → I53a.run ⟨[.dat (.slice .str) a0, .clos 45 [.ptr 0 0]], [(0, .box [.dat (.slice .str) bef])]⟩ = some ⟨[.dat tI (idxBy (fun o => t45_0 o bef) a0 0)], [(0, .box [.dat (.slice .str) (bef)])]⟩
theorem sd53a (hE : EnvOk Tryz.prog En45) (h : R53a) : EnvOk Tryz.prog En53a := env_or hE rfl (gen_sound I53a hE mo Tryz.func53 rfl rfl (fun x hx => h x.1 x.2.1 hx))
def R33a : Prop := ∀ (a0 : (List Bytes)) (bef : (List Bytes)), (t33a_ok a0 bef) = true → I33a.run ⟨[.dat (.slice .str) a0, .clos 45 [.ptr 0 0]], [(0, .box [.dat (.slice .str) bef])]⟩ = some ⟨[.dat .bool (t33a_0 a0 bef)], [(0, .box [.dat (.slice .str) bef])]⟩
theorem sd33a (hE : EnvOk Tryz.prog En53a) (h : R33a) : EnvOk Tryz.prog En33a := env_or hE rfl (gen_sound I33a hE mo Tryz.func33 rfl rfl (fun x hx => h x.1 x.2.1 hx))
theorem rt33a (a0 : (List Bytes)) (bef : (List Bytes)) : I33a.run ⟨[.dat (.slice .str) a0, .clos 45 [.ptr 0 0]], [(0, .box [.dat (.slice .str) bef])]⟩ = (t33a a0 bef).map (fun r => ⟨[.dat .bool r], [(0, .box [.dat (.slice .str) bef])]⟩) := by
  rw [f33a_run a0 bef]
  unfold t33a
  simp only [omap_cond, Option.map_some, Option.map_none]
theorem r33a : R33a := by
  intro a0 bef h
  obtain ⟨r, hr⟩ := Option.isSome_iff_exists.1 h
  rw [rt33a, hr]
  unfold t33a_0
  rw [hr]; rfl
def R95 : Prop := ∀ (a0 : Bytes), (true) = true → I95.run ⟨[.dat .str a0], []⟩ = some ⟨[.dat .bool (t95_0 a0)], []⟩
theorem sd95 (hE : EnvOk Tryz.prog En33a) (h : R95) : EnvOk Tryz.prog En95 := env_add hE (gen_sound I95 hE mo Tryz.func95 rfl rfl (fun x hx => h x.1 hx))
theorem r95 : R95 := by
  intro a0 _
  exact f95_run a0
def R77 : Prop := ∀ (a0 : Bytes) (a1 : Bytes), (true) = true → I77.run ⟨[.dat .str a0, .dat .str a1], []⟩ = some ⟨[.dat .bool (t77_0 a0 a1)], []⟩
theorem sd77 (hE : EnvOk Tryz.prog En95) (h : R77) : EnvOk Tryz.prog En77 := env_add hE (gen_sound I77 hE mo Tryz.func77 rfl rfl (fun x hx => h x.1 x.2.1 hx))
theorem r77 : R77 := by
  intro a0 a1 _
  rw [f77_run a0 a1]
  unfold t77_0 t77
  cases h2 : (t95_0 a0) with
  | true =>
    simp only [cond_true]
    cases h4 : (!(t95_0 a1)) with
    | true =>
      simp only [cond_true]
      all_goals rfl
    | false =>
      simp only [cond_false]
      all_goals rfl
  | false =>
    simp only [cond_false]
    all_goals rfl
def R71 : Prop := ∀ (a : Int) (b : Int) (a0 : (List Bytes)), (decide (List.length a0 = 0) && a == 0 && b == 0) = true → I71.run ⟨[.slc 0, .dat tI a, .dat tI b], [(0, .arr .str a0)]⟩ = some ⟨[], [(0, .arr .str (a0))]⟩
theorem sd71 (hE : EnvOk Tryz.prog En77) (h : R71) : EnvOk Tryz.prog En71 := env_add hE (gen_sound I71 hE mo Tryz.func71 rfl rfl (fun x hx => h x.1 x.2.1 x.2.2.1 hx))
def R67 : Prop := ∀ (a : Int) (b : Int) (lim : Int) (a0 : (List Bytes)), (decide (List.length a0 = 0) && a == 0 && b == 0) = true → I67.run ⟨[.slc 0, .dat tI a, .dat tI b, .dat tI lim], [(0, .arr .str a0)]⟩ = some ⟨[], [(0, .arr .str (a0))]⟩
theorem sd67 (hE : EnvOk Tryz.prog En71) (h : R67) : EnvOk Tryz.prog En67 := env_add hE (gen_sound I67 hE mo Tryz.func67 rfl rfl (fun x hx => h x.1 x.2.1 x.2.2.1 x.2.2.2.1 hx))
def R80 : Prop := ∀ (a0 : Int), (t80_ok a0) = true → I80.run ⟨[.dat (.int .u32) a0], []⟩ = some ⟨[.dat tI (t80_0 a0)], []⟩
theorem sd80 (hE : EnvOk Tryz.prog En67) (h : R80) : EnvOk Tryz.prog En80 := env_add hE (gen_sound I80 hE mo Tryz.func80 rfl rfl (fun x hx => h x.1 hx))
theorem rt80 (a0 : Int) : I80.run ⟨[.dat (.int .u32) a0], []⟩ = (t80 a0).map (fun r => ⟨[.dat tI r], []⟩) := by
  rw [f80_run a0]
  unfold t80
  simp only [omap_cond, Option.map_some, Option.map_none]
theorem r80 : R80 := by
  intro a0 h
  obtain ⟨r, hr⟩ := Option.isSome_iff_exists.1 h
  rw [rt80, hr]
  unfold t80_0
  rw [hr]; rfl
def R81 : Prop := ∀ (a0 : Int), (t81_ok a0) = true → I81.run ⟨[.dat (.int .u64) a0], []⟩ = some ⟨[.dat tI (t81_0 a0)], []⟩
theorem sd81 (hE : EnvOk Tryz.prog En80) (h : R81) : EnvOk Tryz.prog En81 := env_add hE (gen_sound I81 hE mo Tryz.func81 rfl rfl (fun x hx => h x.1 hx))
theorem rt81 (a0 : Int) : I81.run ⟨[.dat (.int .u64) a0], []⟩ = (t81 a0).map (fun r => ⟨[.dat tI r], []⟩) := by
  rw [f81_run a0]
  unfold t81
  simp only [omap_cond, Option.map_some, Option.map_none]
theorem r81 : R81 := by
  intro a0 h
  obtain ⟨r, hr⟩ := Option.isSome_iff_exists.1 h
  rw [rt81, hr]
  unfold t81_0
  rw [hr]; rfl
def R68 : Prop := ∀ (a0 : Int), (t68_ok a0) = true → I68.run ⟨[.dat (.int .u64) a0], []⟩ = some ⟨[.dat tI (t68_0 a0)], []⟩
theorem sd68 (hE : EnvOk Tryz.prog En81) (h : R68) : EnvOk Tryz.prog En68 := env_add hE (gen_sound I68 hE mo Tryz.func68 rfl rfl (fun x hx => h x.1 hx))
theorem rt68 (a0 : Int) : I68.run ⟨[.dat (.int .u64) a0], []⟩ = (t68 a0).map (fun r => ⟨[.dat tI r], []⟩) := by
  rw [f68_run a0]
  unfold t68
  simp only [omap_cond, Option.map_some, Option.map_none]
theorem r68 : R68 := by
  intro a0 h
  obtain ⟨r, hr⟩ := Option.isSome_iff_exists.1 h
  rw [rt68, hr]
  unfold t68_0
  rw [hr]; rfl
def R58 : Prop := ∀ (a0 : (List Bytes)), (decide (List.length a0 = 0)) = true → I58.run ⟨[.slc 0], [(0, .arr .str a0)]⟩ = some ⟨[], [(0, .arr .str (a0))]⟩
theorem sd58 (hE : EnvOk Tryz.prog En68) (h : R58) : EnvOk Tryz.prog En58 := env_add hE (gen_sound I58 hE mo Tryz.func58 rfl rfl (fun x hx => h x.1 hx))
def R58a : Prop := Sound Tryz.prog En0.gl 58 S58a ∧ Enters Tryz.prog 58
theorem sd58a (hE : EnvOk Tryz.prog En58) (h : R58a) : EnvOk Tryz.prog En58a := env_add hE (h)
def R59 : Prop := ∀ (a0 : (List Bytes)), (decide (List.length a0 ≤ 1000000)) = true → I59.run ⟨[.slc 0], [(0, .arr .str a0)]⟩ = some ⟨[.dat (.slice .str) (compS a0)], [(0, .dead)]⟩
theorem sd59 (hE : EnvOk Tryz.prog En58a) (h : R59) : EnvOk Tryz.prog En59 := env_add hE (gen_sound I59 hE mo Tryz.func59 rfl rfl (fun x hx => h x.1 hx))
def R44 : Prop := ∀ (a0 : (List Item)), (decide (List.length a0 ≤ 100) && partsOk a0) = true → I44.run ⟨[.dat (.slice tItem) a0], []⟩ = some ⟨[.dat (.slice .str) (partsR a0)], []⟩
theorem sd44 (hE : EnvOk Tryz.prog En59) (h : R44) : EnvOk Tryz.prog En44 := env_add hE (gen_sound I44 hE mo Tryz.func44 rfl rfl (fun x hx => h x.1 hx))
def R21 : Prop := ∀ (a0 : Prgm) (a1 : Int) (a2 : Int), (decide (List.length a0.1 ≤ 100) && partsOk a0.1) = true → I21.run ⟨[.dat tPrgm a0, .dat tI a1, .dat tI a2], []⟩ = some ⟨[.dat (.slice .str) (lvR a0 a1 a2)], []⟩
theorem sd21 (hE : EnvOk Tryz.prog En44) (h : R21) : EnvOk Tryz.prog En21 := env_add hE (gen_sound I21 hE mo Tryz.func21 rfl rfl (fun x hx => h x.1 x.2.1 x.2.2.1 hx))
def R47 : Prop := ∀ (a0 : Item) (a1 : Item), (decide (List.length a0.2.2.2 ≤ 1000)) = true → I47.run ⟨[.dat tItem a0, .dat tItem a1], []⟩ = some ⟨[.dat .bool (a0 == a1)], []⟩
theorem sd47 (hE : EnvOk Tryz.prog En21) (h : R47) : EnvOk Tryz.prog En47 := env_add hE (gen_sound I47 hE mo Tryz.func47 rfl rfl (fun x hx => h x.1 x.2.1 hx))
def R22 : Prop := ∀ (a0 : Prgm) (a1 : Prgm), (decide (List.length a0.1 ≤ 100) && partsOk a0.1 && decide (List.length a1.1 ≤ 100)) = true → I22.run ⟨[.dat tPrgm a0, .dat tPrgm a1], []⟩ = some ⟨[.dat (.slice .str) (goneF a0.1 a1.1), .dat (.slice .str) (goneF a1.1 a0.1), .dat (.slice .str) (otherR a0.1 a1.1)], []⟩
theorem sd22 (hE : EnvOk Tryz.prog En47) (h : R22) : EnvOk Tryz.prog En22 := env_add hE (gen_sound I22 hE mo Tryz.func22 rfl rfl (fun x hx => h x.1 x.2.1 hx))
def R48 : Prop := ∀ (a0 : Prgm), (true) = true → I48.run ⟨[.dat tPrgm a0], []⟩ = some ⟨[.dat tI ((longP a0).1), .dat tI ((longP a0).2)], []⟩
theorem sd48 (hE : EnvOk Tryz.prog En22) (h : R48) : EnvOk Tryz.prog En48 := env_add hE (gen_sound I48 hE mo Tryz.func48 rfl rfl (fun x hx => h x.1 hx))
def R24 : Prop := (true) = true → I24.run ⟨[], []⟩ = some ⟨[.dat .bool true], []⟩
theorem sd24 (hE : EnvOk Tryz.prog En48) (h : R24) : EnvOk Tryz.prog En24 := env_add hE (gen_sound I24 hE mo Tryz.func24 rfl rfl (fun x hx => h  hx))
def R3 : Prop := ∀ (a0 : (List Int)), (true) = true → I3.run ⟨[.dat (.slice tI) a0], []⟩ = some ⟨[.dat .bool true], []⟩
theorem law (hE : EnvOk Tryz.prog En24) (h : R3) : Sound Tryz.prog En24.gl 3 S3 := And.left (b := Enters Tryz.prog 3) (gen_sound I3 hE mo Tryz.func3 rfl rfl (fun x hx => h x.1 hx))
end Go.Ev.N

set_option linter.unusedVariables false
set_option linter.unusedSimpArgs false
namespace Go.Ev.N
open Go Go.Ev Go.Proofs
/-! ### small things (rw [condT (dT (by first | omega | (simp only [List.length_append, List.length_cons, List.length_nil, List.length_set, List.length_take, List.length_drop, List.length_map]; omega) | (simp; omega)))], repeat (rw [condT (dT (by first | omega | (simp only [List.length_append, List.length_cons, List.length_nil, List.length_set, List.length_take, List.length_drop, List.length_map]; omega) | (simp; omega)))]), st: words that tmpl2.py writes out) -/
theorem c12 {α : Type} {a b : α} : cond ((12 : Int) == 0) a b = b := rfl
theorem range1 (i m : Nat) : List.range' i (m + 1) = i :: List.range' (i + 1) m := by rw [List.range'_succ]

theorem r28 : R28 := by
  intro a0 a1 _
  rw [f28_run]
  unfold below
  by_cases h1 : a1 < 1
  · simp [h1]
  · have h0 : (a1 == 0) = false := by simp; omega
    by_cases h2 : a0.tmod a1 < 0 <;> simp [h1, h0, h2]

theorem atOk_iff {k a : Int} : atOk k a = true ↔ 0 ≤ a ∧ a + k ≤ 1099511627776 := by simp [atOk]

theorem nextAt_eq {k a : Int} (h : atOk k a = true) (hk : 0 ≤ k) : nextAt a = a + 1 := by
  rw [atOk_iff] at h
  unfold nextAt
  exact wrap_in (by omega) (by omega)

theorem r10 : R10 := by
  intro a0 L at_ h
  rw [f10_run]
  have h1 := atOk_iff.1 h
  have e1 : wrap .i64 (at_ + 1) = at_ + 1 := wrap_in (by omega) (by omega)
  have e2 : wrap .i64 (at_ + 1 - 1) = at_ := by rw [wrap_in (by omega) (by omega)]; omega
  unfold next rawNext nextAt
  by_cases h0 : L = []
  · subst h0; simp
  · have hl : 0 < L.length := List.length_pos_iff.2 h0
    have hne : ((L.length : Int) == 0) = false := by simp; omega
    have ht0 : decide ((0 : Int) ≤ Int.tmod at_ L.length) = true := by simp; exact Int.tmod_nonneg _ h1.1
    have ht1 : decide (Int.tmod at_ L.length < L.length) = true := by simp; exact Int.tmod_lt_of_pos _ (by omega)
    simp only [hne, cond_false, e1, e2, ht0, ht1, cond_true]

theorem below_range {x n : Int} (h1 : 1 ≤ n) (h2 : n ≤ 4611686018427387904) : 0 ≤ below x n ∧ below x n < n := by
  unfold below
  have hlt : decide (n < 1) = false := by simp; omega
  have h3 := Int.tmod_lt_of_pos x (show 0 < n by omega)
  have h4 : -n < x.tmod n := Int.lt_tmod_of_pos x (by omega)
  rw [hlt, cond_false]
  by_cases h : x.tmod n < 0
  · rw [condT (by simpa using h), wrap_in (by omega) (by omega)]; omega
  · rw [condF (by simpa using h)]; omega

theorem next_range (L : List Int) (at_ : Int) {n : Int} (h1 : 1 ≤ n) (h2 : n ≤ 4611686018427387904) : 0 ≤ next L at_ n ∧ next L at_ n < n := below_range h1 h2

theorem r8 : R8 := by
  intro a0 L at_ h
  rw [f8_run, h]; rfl

theorem r7 : R7 := by
  intro a0 L at_ h
  simp only [Bool.and_eq_true, decide_eq_true_eq] at h
  obtain ⟨⟨h1, h2⟩, h3⟩ := h
  have hr := next_range L at_ (n := (a0.length : Int)) (by omega) (by omega)
  rw [f7_run, h1]
  have q1 : decide ((0 : Int) ≤ next L at_ a0.length) = true := by simpa using hr.1
  have q2 : decide (next L at_ a0.length < a0.length) = true := by simpa using hr.2
  rw [q1, q2]; rfl

theorem r49 : R49 := by
  intro a0 a1 L at_ h
  rw [f49_run, h]
  unfold rangeS rangeAt
  by_cases hc : a1 < a0 <;> simp [hc]

theorem r26 : R26 := by
  intro a0 a1 L at_ h
  have h1 := atOk_iff.1 h
  rw [f26_run]
  have q1 : atOk 1 at_ = true := atOk_iff.2 (by omega)
  have e1 := nextAt_eq q1 (by omega)
  have q2 : atOk 1 (nextAt at_) = true := atOk_iff.2 (by omega)
  rw [q1, q2]
  unfold oddS
  cases next L at_ 12 == 0 <;> rfl

theorem r51 : R51 := by
  intro a0 a1 a2 _
  rw [f51_run]
  unfold outside
  cases decide (a0 < a1) <;> rfl

theorem r38 : R38 := by
  intro a0 a1 a2 _
  rw [f38_run]
  unfold inR
  cases decide (a1 ≤ a0) <;> rfl

theorem atOk_t {k a : Int} (h1 : 0 ≤ a) (h2 : a + k ≤ 1099511627776) : atOk k a = true := atOk_iff.2 ⟨h1, h2⟩
theorem nextAt_s {a : Int} (h1 : 0 ≤ a) (h2 : a + 1 ≤ 1099511627776) : nextAt a = a + 1 := wrap_in (by omega) (by omega)
theorem rangeAt_s {a lo hi : Int} (h0 : lo ≤ hi) (h1 : 0 ≤ a) (h2 : a + 1 ≤ 1099511627776) : rangeAt a lo hi = a + 1 := by
  unfold rangeAt
  rw [condF (by simp; omega)]; exact nextAt_s h1 h2
theorem rangeS_in (L : List Int) (a : Int) {lo hi : Int} (h : lo ≤ hi) (h1 : -1000000000 ≤ lo) (h2 : hi ≤ 1000000000) : lo ≤ rangeS L a lo hi ∧ rangeS L a lo hi ≤ hi := by
  unfold rangeS
  rw [condF (by simp; omega), wrap_in (x := hi - lo) (by omega) (by omega), wrap_in (x := hi - lo + 1) (by omega) (by omega)]
  have := next_range L a (n := hi - lo + 1) (by omega) (by omega)
  rw [wrap_in (by omega) (by omega)]; omega
theorem oddAt (L : List Int) {a lo hi : Int} (h0 : lo ≤ hi) (h1 : 0 ≤ a) (h2 : a + 2 ≤ 1099511627776) : (oddS L a lo hi).1 = a + 2 := by
  unfold oddS
  cases next L a 12 == 0
  · simp only [cond_false]; rw [nextAt_s h1 (by omega), rangeAt_s h0 (by omega) (by omega)]; omega
  · simp only [cond_true]; rw [nextAt_s h1 (by omega), nextAt_s (by omega) (by omega)]; omega
theorem len_t {n m : Nat} (h : n ≤ m) : decide (n ≤ m) = true := dT h
theorem atOk_and {k a : Int} {p q : Bool} (h1 : 0 ≤ a) (h2 : a + k ≤ 1099511627776) (hp : p = true) (hq : q = true) : (atOk k a && p && q) = true := by
  rw [atOk_t h1 h2, hp, hq]; rfl
theorem bself (n : Int) : (n == n) = true := by simp

theorem r6 : R6 := by
  intro a0 L at_ h
  simp only [Bool.and_eq_true, decide_eq_true_eq] at h
  obtain ⟨⟨h1, h2⟩, h3⟩ := h
  have hr := next_range L at_ (n := (a0.length : Int)) (by omega) (by omega)
  rw [f6_run, h1]
  have q1 : decide ((0 : Int) ≤ next L at_ a0.length) = true := by simpa using hr.1
  have q2 : decide (next L at_ a0.length < a0.length) = true := by simpa using hr.2
  rw [q1, q2]; rfl

theorem r27 : R27 := by
  intro a0 h
  simp only [decide_eq_true_eq] at h
  rw [f27_run, condT (dT (by simp; omega))]
  cases a0 with
  | nil => simp [both_self]
  | cons x l => simp

theorem idxBy_any {α : Type} (p : α → Bool) : ∀ (l : List α) (i : Nat), decide (idxBy p l i ≥ 0) = l.any p
  | [], i => by simp [idxBy]
  | x :: l, i => by
    have ih := idxBy_any p l (i + 1)
    simp only [idxBy, List.any_cons]
    by_cases hx : p x = true
    · simp [hx]
    · have hx : p x = false := by simpa using hx
      simp only [hx, cond_false, Bool.false_or]; exact ih

theorem go41 (xs : List Item) (hb : xs.length ≤ 1000) (k pl : Bytes) (lg : Int) (ps : List Bytes) : ∀ (m i : Nat), i + m = xs.length →
    f41h0 xs xs.length i k pl lg ps = some ⟨[.dat tI (idxBy (fun o => t64_0 o k pl lg ps) (xs.drop i) i)], [(0, .box [.dat .str k, .dat .str pl, .dat tI lg, .dat (.slice .str) ps])]⟩ := by
  intro m
  induction m with
  | zero => intro i hi; rw [f41h0_eq, dlt_not (by omega), dnil (by omega)]; rfl
  | succ m ih =>
    intro i hi
    have hlt : i < xs.length := by omega
    rw [f41h0_eq, dlt hlt, dle0, getN _ _ _ hlt, wsucc (by omega), ih (i + 1) (by omega), dcons hlt]
    simp only [cond_true, idxBy]
    cases t64_0 xs[i] k pl lg ps <;> rfl

theorem r41 : R41 := by
  intro a0 k pl lg ps h
  simp only [decide_eq_true_eq] at h
  rw [f41_run]
  exact go41 a0 h k pl lg ps a0.length 0 (by omega)

theorem go41b (xs : List Item) (hb : xs.length ≤ 1000) (k : Bytes) : ∀ (m i : Nat), i + m = xs.length →
    f41bh0 xs xs.length i k = some ⟨[.dat tI (idxBy (fun o => t42_0 o k) (xs.drop i) i)], [(0, .box [.dat .str k])]⟩ := by
  intro m
  induction m with
  | zero => intro i hi; rw [f41bh0_eq, dlt_not (by omega), dnil (by omega)]; rfl
  | succ m ih =>
    intro i hi
    have hlt : i < xs.length := by omega
    rw [f41bh0_eq, dlt hlt, dle0, getN _ _ _ hlt, wsucc (by omega), ih (i + 1) (by omega), dcons hlt]
    simp only [cond_true, idxBy]
    cases t42_0 xs[i] k <;> rfl

theorem r41b : R41b := by
  intro a0 k h
  simp only [decide_eq_true_eq] at h
  rw [f41b_run]
  exact go41b a0 h k a0.length 0 (by omega)

theorem r62 : R62 := by
  intro a0 _
  rw [f62_run]
  show (cond (!(a0 == [])) (cond (decide ((a0.length : Int) ≤ 40)) (cond (decide ((0 : Int) ≤ 0)) (cond (decide ((0 : Int) < (a0.length : Int))) (cond (decide (indexB smallsB ((a0.getD 0 0).toNat : Int) ≥ 0)) (cond (trimOk a0 keyB) (some (α := Fr) ⟨[.dat .bool (trimB a0 keyB == [])], []⟩) none) (some (α := Fr) ⟨[.dat .bool false], []⟩)) none) none) (some (α := Fr) ⟨[.dat .bool false], []⟩)) (some (α := Fr) ⟨[.dat .bool false], []⟩)) = some (α := Fr) ⟨[.dat .bool (!(a0 == []) && decide ((a0.length : Int) ≤ 40) && decide (indexB smallsB ((a0.getD 0 0).toNat : Int) ≥ 0) && (trimB a0 keyB == []))], []⟩
  generalize hz : decide (indexB smallsB ((a0.getD 0 0).toNat : Int) ≥ 0) = z
  cases h1 : !(a0 == []) with
  | false => rfl
  | true =>
    cases h2 : decide ((a0.length : Int) ≤ 40) with
    | false => rfl
    | true =>
      have h1' : 0 < a0.length := by
        cases a0 with
        | nil => simp at h1
        | cons x l => simp
      have h2' : (a0.length : Int) ≤ 40 := by simpa using h2
      have q : trimOk a0 keyB = true := by
        unfold trimOk
        rw [dT (by omega), show decide (keyB.length ≤ 1000) = true from by decide, show (keyB.all fun b => decide (b.toNat < 128)) = true from by decide]; rfl
      have q0 : decide ((0 : Int) < (a0.length : Int)) = true := dT (by omega)
      simp only [cond_true, q0, Bool.true_and, q, show decide ((0 : Int) ≤ 0) = true from rfl]
      cases z <;> rfl

theorem go65 (xs : List Bytes) (hb : xs.length ≤ 1000) : ∀ (m i : Nat) (prev : Option Bytes), i + m = xs.length → (i = 0 ∧ prev = none ∨ ∃ h : 0 < i ∧ i - 1 < xs.length, prev = some (xs[i - 1]'h.2)) →
    f65h0 xs xs xs.length i = some ⟨[.dat tI (risingGo isKey prev (xs.drop i))], []⟩ := by
  intro m
  induction m with
  | zero => intro i prev hi hp; rw [f65h0_eq, dlt_not (by omega), dnil (by omega)]; rfl
  | succ m ih =>
    intro i prev hi hp
    have hlt : i < xs.length := by omega
    have ih' := ih (i + 1) (some xs[i]) (by omega) (.inr ⟨⟨by omega, by omega⟩, rfl⟩)
    rw [f65h0_eq, dlt hlt, dle0, getN _ _ _ hlt, wsucc (by omega), ih', dcons hlt]
    simp only [cond_true, risingGo]
    cases isKey xs[i] with
    | false => rfl
    | true =>
      simp only [Bool.not_true, cond_false]
      rcases hp with ⟨rfl, rfl⟩ | ⟨⟨h1, h2⟩, rfl⟩
      · rfl
      · have e : wrap .i64 ((i : Int) - 1) = ((i - 1 : Nat) : Int) := by rw [wrap_in (by omega) (by omega)]; omega
        rw [e, dle0, dlt h2, getN _ _ _ h2, condT (dT (by omega))]
        simp only [cond_true, notAfter]
        cases bLess xs[i] xs[i - 1] || xs[i] == xs[i - 1] <;> rfl

theorem r65 : R65 := by
  intro a0 _
  rw [f65_run]
  unfold partsF
  cases h1 : ((a0.length : Int) == 0) with
  | true => rfl
  | false =>
    cases h2 : decide ((a0.length : Int) > 12) with
    | true => rfl
    | false =>
      simp only [cond_false]
      have : ¬ (a0.length : Int) > 12 := by simpa using h2
      exact go65 a0 (by omega) a0.length 0 none (by omega) (.inl ⟨rfl, rfl⟩)

theorem go56 (xs : List Bytes) (hb : xs.length ≤ 1000) : ∀ (m i : Nat) (prev : Option Bytes), i + m = xs.length → (i = 0 ∧ prev = none ∨ ∃ h : 0 < i ∧ i - 1 < xs.length, prev = some (xs[i - 1]'h.2)) →
    f56h0 xs xs xs.length i = some ⟨[.dat tI (risingGo keyR prev (xs.drop i))], []⟩ := by
  intro m
  induction m with
  | zero => intro i prev hi hp; rw [f56h0_eq, dlt_not (by omega), dnil (by omega)]; rfl
  | succ m ih =>
    intro i prev hi hp
    have hlt : i < xs.length := by omega
    have ih' := ih (i + 1) (some xs[i]) (by omega) (.inr ⟨⟨by omega, by omega⟩, rfl⟩)
    rw [f56h0_eq, dlt hlt, dle0, getN _ _ _ hlt, wsucc (by omega), ih', dcons hlt]
    simp only [cond_true, risingGo]
    cases keyR xs[i] with
    | false => rfl
    | true =>
      simp only [Bool.not_true, cond_false]
      rcases hp with ⟨rfl, rfl⟩ | ⟨⟨h1, h2⟩, rfl⟩
      · rfl
      · have e : wrap .i64 ((i : Int) - 1) = ((i - 1 : Nat) : Int) := by rw [wrap_in (by omega) (by omega)]; omega
        rw [e, dle0, dlt h2, getN _ _ _ h2, condT (dT (by omega))]
        simp only [cond_true, notAfter]
        cases bLess xs[i] xs[i - 1] || xs[i] == xs[i - 1] <;> rfl

theorem r56 : R56 := by
  intro a0 h
  simp only [decide_eq_true_eq] at h
  rw [f56_run]
  exact go56 a0 h a0.length 0 none (by omega) (.inl ⟨rfl, rfl⟩)

theorem go66 (xs cs : Bytes) (hb : xs.length ≤ 1000000) : ∀ (m i : Nat), i + m = xs.length → f66h0 xs cs xs.length i = some ⟨[.dat .bool (onlyB (xs.drop i) cs)], []⟩ := by
  intro m
  induction m with
  | zero => intro i hi; rw [f66h0_eq, dlt_not (by omega), dnil (by omega)]; rfl
  | succ m ih =>
    intro i hi
    have hlt : i < xs.length := by omega
    rw [f66h0_eq, dlt hlt, dle0, getN _ _ _ hlt, wsucc (by omega), ih (i + 1) (by omega), dcons hlt]
    simp only [cond_true, onlyB, List.all_cons]
    cases decide (indexB cs ((xs[i].toNat : Nat) : Int) < 0) <;> rfl

theorem r66 : R66 := by
  intro a0 a1 h
  simp only [decide_eq_true_eq] at h
  rw [f66_run]
  exact go66 a0 a1 h a0.length 0 (by omega)

theorem r55 : R55 := by
  intro a0 _
  rw [f55_run]
  unfold keyR
  cases h1 : inR (a0.length : Int) 1 40 with
  | false => rfl
  | true =>
    have h2 : 1 ≤ a0.length ∧ a0.length ≤ 40 := by
      simp only [inR, Bool.and_eq_true, decide_eq_true_eq] at h1; omega
    have e : List.drop (Int.toNat 0) (List.take (Int.toNat 1) a0) = a0.take 1 := rfl
    rw [e, dT (p := (1 : Int) ≤ (a0.length : Int)) (by omega), dT (p := (a0.take 1).length ≤ 1000000) (by rw [List.length_take]; omega), dT (p := a0.length ≤ 1000000) (by omega)]
    simp only [cond_true, Bool.true_and, smallsB, keyB]
    cases onlyB (a0.take 1) _ <;> rfl

end Go.Ev.N

set_option linter.unusedVariables false
set_option linter.unusedSimpArgs false
namespace Go.Ev.N
open Go Go.Ev Go.Proofs
theorem ok19 (l : List Item) (k : Bytes) (h : l.length ≤ 1000) : t19_ok l k = true ∧ t19_0 l k = idxBy (fun o => t42_0 o k) l 0 := by
  unfold t19_ok t19_0 t19
  rw [dT h]; exact ⟨rfl, rfl⟩

theorem okC (l : List Item) (k pl : Bytes) (lg : Int) (ps : List Bytes) (h : l.length ≤ 1000) : t63_ok l k pl lg ps = true ∧
    t63_0 l k pl lg ps = (l.any fun o => o.1 == k) := by
  unfold t63_ok t63_0 t63
  rw [dT h]
  refine ⟨rfl, ?_⟩
  exact idxBy_any _ l 0

theorem go54 (xs : List Item) (hb : xs.length ≤ 60) : ∀ (m i : Nat), i + m = xs.length →
    f54h0 xs xs xs.length i = some ⟨[.dat tI (itemsGo isKey (xs.take i) (xs.drop i))], []⟩ := by
  intro m
  induction m with
  | zero => intro i hi; rw [f54h0_eq, dlt_not (by omega), dnil (xs := xs) (i := i) (by omega)]; rfl
  | succ m ih =>
    intro i hi
    have hlt : i < xs.length := by omega
    have ih' := ih (i + 1) (by omega)
    have hl : (xs.take i).length ≤ 1000 := by rw [List.length_take]; omega
    rw [List.take_succ_eq_append_getElem hlt] at ih'
    rw [f54h0_eq, dlt hlt, dle0, getN _ _ _ hlt, wsucc (by omega), ih', dcons hlt]
    have e : List.drop (Int.toNat 0) (List.take (Int.toNat (i : Int)) xs) = xs.take i := rfl
    obtain ⟨q1, q2⟩ := okC (xs.take i) xs[i].1 xs[i].2.1 xs[i].2.2.1 xs[i].2.2.2 hl
    rw [e, q1, q2, dT (p := (i : Int) ≤ (xs.length : Int)) (by omega), show decide ((0 : Int) ≤ 0) = true from rfl]
    simp only [cond_true, itemsGo]
    cases isKey xs[i].1 with
    | false => rfl
    | true =>
      cases isKey xs[i].2.1 with
      | false => rfl
      | true =>
        simp only [Bool.not_true, cond_false, Bool.or_false]
        cases (xs.take i).any fun o => o.1 == xs[i].1 with
        | true => rfl
        | false =>
          cases outside xs[i].2.2.1 1 86400000 with
          | true => rfl
          | false =>
            simp only [cond_false]
            cases partsF isKey xs[i].2.2.2 != 0 <;> rfl

theorem r54 : R54 := by
  intro a0 _
  rw [f54_run]
  unfold checkItems
  cases h2 : decide ((a0.length : Int) > 60) with
  | true => rfl
  | false =>
    have : ¬ (a0.length : Int) > 60 := by simpa using h2
    exact go54 a0 (by omega) a0.length 0 (by omega)

theorem outside_in (n lo hi : Int) : outside n lo hi = !inR n lo hi := by
  unfold outside inR
  have h1 : decide (n < lo) = !decide (lo ≤ n) := by
    by_cases h : lo ≤ n
    · have : ¬ n < lo := by omega
      simp [h, this]
    · have : n < lo := by omega
      simp [h, this]
  have h2 : decide (n > hi) = !decide (n ≤ hi) := by
    by_cases h : n ≤ hi
    · have : ¬ n > hi := by omega
      simp [h, this]
    · have : n > hi := by omega
      simp [h, this]
  rw [h1, h2, Bool.not_and]

theorem go37 (xs : List Item) (hb : xs.length ≤ 60) : ∀ (m i : Nat), i + m = xs.length →
    f37h0 xs xs xs.length i = some ⟨[.dat tI (itemsGo keyR (xs.take i) (xs.drop i))], []⟩ := by
  intro m
  induction m with
  | zero => intro i hi; rw [f37h0_eq, dlt_not (by omega), dnil (xs := xs) (i := i) (by omega)]; rfl
  | succ m ih =>
    intro i hi
    have hlt : i < xs.length := by omega
    have ih' := ih (i + 1) (by omega)
    have hl : (xs.take i).length ≤ 1000 := by rw [List.length_take]; omega
    rw [List.take_succ_eq_append_getElem hlt] at ih'
    rw [f37h0_eq, dlt hlt, dle0, getN _ _ _ hlt, wsucc (by omega), ih', dcons hlt]
    have e : List.drop (Int.toNat 0) (List.take (Int.toNat (i : Int)) xs) = xs.take i := rfl
    obtain ⟨q1, q2⟩ := ok19 (xs.take i) xs[i].1 hl
    have q3 : decide (idxBy (fun o => t42_0 o xs[i].1) (xs.take i) 0 ≥ 0) = ((xs.take i).any fun o => o.1 == xs[i].1) := idxBy_any _ _ 0
    rw [e, q1, q2, q3, dT (p := (i : Int) ≤ (xs.length : Int)) (by omega), show decide ((0 : Int) ≤ 0) = true from rfl]
    simp only [cond_true, itemsGo, outside_in, partsF]
    generalize (xs.take i).any (fun o => o.1 == xs[i].1) = z
    cases keyR xs[i].1 with
    | false => rfl
    | true =>
      cases keyR xs[i].2.1 with
      | false => rfl
      | true =>
        simp only [Bool.not_true, cond_false, Bool.or_false]
        cases z with
        | true => rfl
        | false =>
          cases inR xs[i].2.2.1 1 86400000 with
          | false => rfl
          | true =>
            simp only [cond_false, Bool.not_true]
            cases h1 : ((xs[i].2.2.2.length : Int) == 0) with
            | true => rfl
            | false =>
              cases h2 : decide ((xs[i].2.2.2.length : Int) > 12) with
              | true => rfl
              | false =>
                have : ¬ (xs[i].2.2.2.length : Int) > 12 := by simpa using h2
                rw [dT (p := xs[i].2.2.2.length ≤ 1000) (by omega)]
                simp only [cond_true, cond_false]
                cases risingGo keyR none xs[i].2.2.2 != 0 <;> rfl

theorem r37 : R37 := by
  intro a0 _
  rw [f37_run]
  unfold checkItems
  cases h2 : decide ((a0.length : Int) > 60) with
  | true => rfl
  | false =>
    have : ¬ (a0.length : Int) > 60 := by simpa using h2
    exact go37 a0 (by omega) a0.length 0 (by omega)

theorem r35 : R35 := by
  intro a0 _
  rw [f35_run]
  unfold checkProg
  cases checkItems isKey a0.1 != 0 with
  | true => rfl
  | false =>
    simp only [cond_false]
    have e : (if (-1 : Int) < (wrap .i64 ((a0.1.length : Int) - 2)) then (wrap .i64 ((a0.1.length : Int) - 2)) else (-1 : Int)) = mx (-1) (wrap .i64 ((a0.1.length : Int) - 2)) := rfl
    rw [e]
    cases outside a0.2.1 0 86400000 with
    | true => rfl
    | false =>
      cases outside a0.2.2.1 0 86400000 with
      | true => rfl
      | false =>
        cases outside a0.2.2.2.1 0 86400000 with
        | true => rfl
        | false => cases outside a0.2.2.2.2 (-1) (mx (-1) (wrap .i64 ((a0.1.length : Int) - 2))) <;> rfl

theorem r14 : R14 := by
  intro a0 _
  rw [f14_run]
  unfold checkProg
  cases checkItems keyR a0.1 != 0 with
  | true => rfl
  | false =>
    simp only [cond_false, outside_in]
    have e : (if (-1 : Int) < (wrap .i64 ((a0.1.length : Int) - 2)) then (wrap .i64 ((a0.1.length : Int) - 2)) else (-1 : Int)) = mx (-1) (wrap .i64 ((a0.1.length : Int) - 2)) := rfl
    rw [e]
    cases inR a0.2.1 0 86400000 with
    | false => rfl
    | true =>
      cases inR a0.2.2.1 0 86400000 with
      | false => rfl
      | true =>
        cases inR a0.2.2.2.1 0 86400000 with
        | false => rfl
        | true => cases inR a0.2.2.2.2 (-1) (mx (-1) (wrap .i64 ((a0.1.length : Int) - 2))) <;> rfl

theorem ix_iff {p : Prgm} {i : Int} : (decide (0 ≤ i) && decide (i + 1 < (List.length p.1 : Int)) && decide (List.length p.1 ≤ 1000)) = true ↔ 0 ≤ i ∧ i + 1 < (p.1.length : Int) ∧ p.1.length ≤ 1000 := by
  simp only [Bool.and_eq_true, decide_eq_true_eq, and_assoc]

theorem r52 : R52 := by
  intro a0 a1 h
  obtain ⟨h1, h2, h3⟩ := ix_iff.1 h
  rw [f52_run, wrap_in (x := a1 + 1) (by omega) (by omega), dT (p := (0 : Int) ≤ a1) h1, dT (p := a1 < (a0.1.length : Int)) (by omega), dT (p := (0 : Int) ≤ a1 + 1) (by omega), dT (p := a1 + 1 < (a0.1.length : Int)) h2]
  simp only [cond_true]
  unfold behindF gapAt t61_0 t61
  cases a1 == a0.2.2.2.2 <;> rfl

theorem r57 : R57 := by
  intro a0 a1 h
  obtain ⟨h1, h2, h3⟩ := ix_iff.1 h
  rw [f57_run, wrap_in (x := a1 + 1) (by omega) (by omega), dT (p := (0 : Int) ≤ a1) h1, dT (p := a1 < (a0.1.length : Int)) (by omega), dT (p := (0 : Int) ≤ a1 + 1) (by omega), dT (p := a1 + 1 < (a0.1.length : Int)) h2]
  simp only [cond_true]
  unfold behindF gapAt
  generalize (!(List.getD a0.1 (Int.toNat a1) (Tc.dflt tItem)).2.1 == (List.getD a0.1 (Int.toNat (a1 + 1)) (Tc.dflt tItem)).2.1) = z
  cases a1 == a0.2.2.2.2 <;> cases z <;> rfl

theorem behind_eq (p : Prgm) (i : Nat) (h : i + 1 < p.1.length) : behindF p i = gapAt p i p.1[i] p.1[i + 1] := by
  have h' : i < p.1.length := by omega
  unfold behindF
  have e : ((i : Int) + 1) = ((i + 1 : Nat) : Int) := by omega
  rw [e, getN _ _ _ h', getN _ _ _ h]

theorem go32 (p : Prgm) (hb : p.1.length ≤ 1000) : ∀ (m i : Nat) (a : Int) (out : List Int), i + m = p.1.length → out.length ≤ i →
    f32h0 a p.1 p.1.length i p.1 p.2.1 p.2.2.1 p.2.2.2.1 p.2.2.2.2 out = some ⟨[.slc 0, .dat tI (begGo p i a (p.1.drop i)).2], [(0, .arr tI (out ++ (begGo p i a (p.1.drop i)).1))]⟩ := by
  intro m
  induction m with
  | zero => intro i a out hi ho; rw [f32h0_eq, dlt_not (by omega), dnil (by omega)]; simp [begGo]
  | succ m ih =>
    intro i a out hi ho
    have hlt : i < p.1.length := by omega
    rw [f32h0_eq, dlt hlt, dle0, getN _ _ _ hlt, wsucc (by omega), dcons hlt, dT (p := (out.length + [a].length) * 8 ≤ 140737488355328) (by simp; omega)]
    simp only [cond_true]
    by_cases hn : i + 1 < p.1.length
    · rw [dlt hn, ih (i + 1) _ _ (by omega) (by simp; omega), dcons hn]
      have q : (true && decide ((i : Int) + 1 < (List.length p.1 : Int)) && decide (List.length p.1 ≤ 1000)) = true := by rw [dT (p := (i : Int) + 1 < (List.length p.1 : Int)) (by omega), dT hb]; rfl
      rw [cond_true, condT q]
      have e : (p.1, (p.2.1, (p.2.2.1, (p.2.2.2.1, p.2.2.2.2)))) = p := rfl
      rw [e, behind_eq p i hn]
      simp only [begGo, List.append_assoc, List.singleton_append]
      rfl
    · rw [dlt_not (i := i + 1) (n := p.1.length) (by omega), cond_false, ih (i + 1) _ _ (by omega) (by simp; omega), dnil (by omega)]
      simp [begGo]

theorem r32 : R32 := by
  intro a0 h
  simp only [decide_eq_true_eq] at h
  rw [f32_run]
  have := go32 a0 h a0.1.length 0 0 [] (by omega) (by simp)
  simpa using this

theorem go43 (p : Prgm) (hb : p.1.length ≤ 1000) : ∀ (m i : Nat) (a : Int) (out : List Timed), i + m = p.1.length → out.length ≤ i →
    f43h0 a p.1 p.1.length i p.1 p.2.1 p.2.2.1 p.2.2.2.1 p.2.2.2.2 out = some ⟨[.slc 0], [(0, .arr tTimed (out ++ timGo p i a (p.1.drop i)))]⟩ := by
  intro m
  induction m with
  | zero => intro i a out hi ho; rw [f43h0_eq, dlt_not (by omega), dnil (by omega)]; simp [timGo]
  | succ m ih =>
    intro i a out hi ho
    have hlt : i < p.1.length := by omega
    rw [f43h0_eq, dlt hlt, dle0, getN _ _ _ hlt, wsucc (by omega), dcons hlt, condT (dT (by simp; omega))]
    simp only [cond_true]
    by_cases hn : i + 1 < p.1.length
    · rw [dlt hn, ih (i + 1) _ _ (by omega) (by simp; omega), dcons hn]
      have q : (true && decide ((i : Int) + 1 < (List.length p.1 : Int)) && decide (List.length p.1 ≤ 1000)) = true := by rw [dT (p := (i : Int) + 1 < (List.length p.1 : Int)) (by omega), dT hb]; rfl
      rw [cond_true, condT q]
      have e : (p.1, (p.2.1, (p.2.2.1, (p.2.2.2.1, p.2.2.2.2)))) = p := rfl
      rw [e, behind_eq p i hn]
      simp only [timGo, List.append_assoc, List.singleton_append]
      rfl
    · rw [dlt_not (i := i + 1) (n := p.1.length) (by omega), cond_false, ih (i + 1) _ _ (by omega) (by simp; omega), dnil (by omega)]
      simp [timGo]

theorem r43 : R43 := by
  intro a0 a1 h
  simp only [decide_eq_true_eq] at h
  rw [f43_run]
  have := go43 a0 h a0.1.length 0 a1 [] (by omega) (by simp)
  simpa using this

end Go.Ev.N

set_option linter.unusedVariables false
set_option linter.unusedSimpArgs false
namespace Go.Ev.N
open Go Go.Ev Go.Proofs
theorem checkItems_len {key : Bytes → Bool} {l : List Item} (h : checkItems key l = 0) : l.length ≤ 60 := by
  unfold checkItems at h
  cases h2 : decide ((l.length : Int) > 60) with
  | true => rw [h2] at h; simp at h
  | false =>
    have : ¬ (l.length : Int) > 60 := by simpa using h2
    omega

theorem checkProg_items {key : Bytes → Bool} {p : Prgm} (h : checkProg key p = 0) : checkItems key p.1 = 0 := by
  unfold checkProg at h
  cases h2 : checkItems key p.1 != 0 with
  | true => rw [h2, cond_true] at h; exact h
  | false => simpa using h2

theorem eta_p (p : Prgm) : (p.1, (p.2.1, (p.2.2.1, (p.2.2.2.1, p.2.2.2.2)))) = p := rfl

theorem begGo_len (p : Prgm) : ∀ (l : List Item) (i a : Int), (begGo p i a l).1.length = l.length
  | [], _, _ => rfl
  | [x], _, _ => rfl
  | x :: y :: l, i, a => by
    have := begGo_len p (y :: l) (i + 1) (wrap .i64 (wrap .i64 (a + x.2.2.1) + gapAt p i x y))
    simp only [begGo, List.length_cons] at this ⊢
    omega

theorem timGo_len (p : Prgm) : ∀ (l : List Item) (i a : Int), (timGo p i a l).length = l.length
  | [], _, _ => rfl
  | [x], _, _ => rfl
  | x :: y :: l, i, a => by
    have := timGo_len p (y :: l) (i + 1) (wrap .i64 (wrap .i64 (a + x.2.2.1) + gapAt p i x y))
    simp only [timGo, List.length_cons] at this ⊢
    omega

theorem r29 : R29 := by
  intro a0 a1 _
  rw [f29_run, eta_p]
  unfold fromF
  cases h : checkProg isKey a0 != 0 with
  | true => rfl
  | false =>
    have h0 : checkProg isKey a0 = 0 := by simpa using h
    have := checkItems_len (checkProg_items h0)
    rw [dT (p := a0.1.length ≤ 1000) (by omega)]
    have e : t31_0 a1 = isMom a1 := rfl
    simp only [cond_false, cond_true, e]
    cases isMom a1 with
    | false => rfl
    | true => simp only [Bool.not_true, Bool.false_or, cond_false]; cases decide (wrap .i64 (a1 + (begGo a0 0 0 a0.1).2) > 345686400000) <;> rfl

theorem fromF_prog {p : Prgm} {f : Int} (h : fromF p f = 0) : checkProg isKey p = 0 := by
  unfold fromF at h
  cases h2 : checkProg isKey p != 0 with
  | true => rw [h2, cond_true] at h; exact h
  | false => simpa using h2

theorem r48 : R48 := by
  intro a0 _
  rw [f48_run, eta_p]
  unfold longP
  cases h : checkProg isKey a0 != 0 with
  | true => rfl
  | false =>
    have h0 : checkProg isKey a0 = 0 := by simpa using h
    have := checkItems_len (checkProg_items h0)
    rw [dT (p := a0.1.length ≤ 1000) (by omega)]
    rfl

theorem beq_comm' (x y : Bytes) : (x == y) = (y == x) := by
  by_cases h : x = y
  · subst h; rfl
  · have h' : ¬ y = x := fun e => h e.symm
    rw [beq_eq_false_iff_ne.2 h, beq_eq_false_iff_ne.2 h']

theorem r40 : R40 := by
  intro a0 h
  simp only [decide_eq_true_eq] at h
  rw [f40_run, eta_p]
  unfold longR
  have hl := timGo_len a0 a0.1 0 0
  rw [dT h, cond_true]
  have hq : (timGo a0 0 0 a0.1).length ≤ 1000 := by omega
  clear hl
  revert hq
  generalize timGo a0 0 0 a0.1 = t
  intro hq
  cases t with
  | nil => rfl
  | cons x l =>
    have h1 : ((List.length (x :: l) : Int) == 0) = false := by simp; omega
    have h0 : 1 ≤ List.length (x :: l) := by simp
    have e : wrap .i64 ((List.length (x :: l) : Int) - 1) = ((List.length (x :: l) - 1 : Nat) : Int) := by rw [wrap_in (by omega) (by omega)]; omega
    have hlt : List.length (x :: l) - 1 < List.length (x :: l) := by simp
    rw [h1, e, dle0, dlt hlt, getN _ _ _ hlt, dT (p := Int.toNat ((List.length (x :: l) - 1 : Nat) : Int) < List.length (x :: l)) (by simp), List.getLast?_eq_getElem?, List.getElem?_eq_getElem hlt]
    simp only [cond_true, cond_false]

theorem r15 : R15 := by
  intro a0 a1 h
  simp only [decide_eq_true_eq] at h
  rw [f15_run, eta_p, dT h]
  unfold beginF
  have e : t39_0 a1 = inR a1 0 345686399999 := rfl
  rw [e]
  cases inR a1 0 345686399999 with
  | false => rfl
  | true => simp only [cond_true, Bool.not_true, Bool.false_or, cond_false]; cases decide (wrap .i64 (a1 + longR a0) > 345686400000) <;> rfl

theorem beq_timed (x y : Timed) : Tc.beq tTimed x y = (x == y) := rfl


end Go.Ev.N

set_option linter.unusedVariables false
namespace Go.Ev
open Go Go.RowKit

theorem pure_sound {P : Program} {G : (Nat → Prop) → Array Obj → Prop} {f : FuncId} {md : List Bool} {ts : List Tc} {ok : Tup ts → Bool} {pat : Fr} {out : Tup ts → FV}
    (hp : ∀ x, fillF pat (undats ts x) = ⟨undats ts x, []⟩) (hr : ∀ x, resFV [out x] = out x)
    (h : ∀ x, ok x = true → ∀ (w : World) (V : Vw) (vals : List Value), V.h = w.heap → G V.S w.heap → RelVs V (undats ts x) vals →
      Calls P f vals.toArray w fun e w' => ∃ u, e = .returned u ∧ RowKit.Below w.heap.size w w' ∧ ∀ V', RelV V' (out x) u) :
    Sound P G f (genS md false pat ts ok (fun x => ⟨[out x], []⟩)) := by
  refine gen_of (P := P) (G := G) (f := f) (fun pk o => ∀ (vals : List Value) (w : World) (loc : Nat → Loc) (S : Nat → Prop), Core pk.reg loc S w.heap → G S w.heap →
    RelVs (view pk.reg loc S w.heap) pk.slots vals →
    Calls P f vals.toArray w fun e w' => ∃ u, e = .returned u ∧ Sm w w' ∧ ∃ loc' S', Ctx (entOf pk loc S w.heap) o.reg loc' S' w'.heap ∧
      (view pk.reg loc S w.heap).le (view o.reg loc' S' w'.heap) ∧ RelV (view o.reg loc' S' w'.heap) (resFV o.slots) u) ?_
  intro x hx vals w loc S hc hg hv
  rw [hp] at hc hv ⊢
  refine (h x hx w (view (Fr.reg ⟨undats ts x, []⟩) loc S w.heap) vals rfl hg hv).mono ?_
  rintro e w' ⟨u, rfl, hb, hu⟩
  refine ⟨u, rfl, ⟨hb.os, hb.output⟩, loc, S, ⟨⟨fun _ => trivial, fun _ _ h => h.elim, fun _ h => h.elim, fun b hb' => Nat.lt_of_lt_of_le (hc.bS b hb') hb.size⟩,
    ⟨hb.size, fun b hb' _ => hb.block b hb', fun _ h => h, fun _ h => .inl h, fun _ h => h.elim, fun _ _ ⟨_, h, _⟩ => h.elim, hc.bS⟩⟩,
    ⟨fun _ _ h => h.elim, fun _ _ _ h => h.elim, fun _ _ _ _ h => h.elim, fun _ _ h => h.elim, fun b hb' => ⟨hb', hb.block b (hc.bS b hb')⟩⟩, ?_⟩
  rw [hr]; exact hu _

theorem enters_plain {P : Program} {f : FuncId} {fn : Func} (hf : P.funcs[f]? = some fn) {b : _} (hb : fn.body = some b) (hn : (fn.name == "runtime.NumGoroutine") = false) : Enters P f :=
  enters_of hf hb hn
end Go.Ev

set_option linter.unusedVariables false
set_option linter.unusedSimpArgs false
namespace Go.Ev
open Go Go.RowKit

/-! ### a slice that is sorted where it lies, by the shelf's contract -/
theorem inplace_sound {P : Program} {G : (Nat → Prop) → Array Obj → Prop} {f : FuncId} {t : Tc} [Inhabited t.den] {enc : t.den → Value} (hs : t.size = 1) (he : ∀ S h x cs, RelD S h t x cs ↔ cs = [enc x])
    {ok : List t.den → Bool} {g : List t.den → List t.den} (hl : ∀ xs, (g xs).length = xs.length) (hne : ∀ xs, ok xs = true → xs ≠ [])
    (h : ∀ xs, ok xs = true → ∀ blk off cap (w : World), Sort.Holds enc w blk off xs.toArray → blk < w.heap.size → Calls P f #[.slice (some ⟨blk, off, none⟩) xs.length cap] w fun e w' =>
      e = .returned (.tuple #[]) ∧ ∃ n os, w' = Sort.grow (Sort.putRow enc (Sort.ahead w n) blk off (g xs).toArray) os) :
    Sound P G f (genS [false] true ⟨[.slc 0], [(0, .arr t [])]⟩ [.slice t] (fun x => ok x.1) (fun x => ⟨[], [(0, .arr t (g x.1))]⟩)) := by
  refine gen_of (P := P) (G := G) (f := f) (fun pk o => ∀ (vals : List Value) (w : World) (loc : Nat → Loc) (S : Nat → Prop), Core pk.reg loc S w.heap → G S w.heap →
    RelVs (view pk.reg loc S w.heap) pk.slots vals →
    Calls P f vals.toArray w fun e w' => ∃ u, e = .returned u ∧ Sm w w' ∧ ∃ loc' S', Ctx (entOf pk loc S w.heap) o.reg loc' S' w'.heap ∧
      (view pk.reg loc S w.heap).le (view o.reg loc' S' w'.heap) ∧ RelV (view o.reg loc' S' w'.heap) (resFV o.slots) u) ?_
  intro x hx vals w loc S hc hg hv
  obtain ⟨xs, _⟩ := x
  have hpk : fillF ⟨[.slc 0], [(0, .arr t [])]⟩ (undats [.slice t] (xs, ())) = ⟨[.slc 0], [(0, .arr t xs)]⟩ := rfl
  rw [hpk] at hc hv ⊢
  simp only at hx
  have hr0 : ∀ (ys : List t.den) (sl : List FV), Fr.reg ⟨sl, [(0, .arr t ys)]⟩ 0 = .arr t ys := fun _ _ => rfl
  have hrk : ∀ (ys : List t.den) (sl : List FV) (k : Nat), k ≠ 0 → Fr.reg ⟨sl, [(0, .arr t ys)]⟩ k = .abs := fun ys sl k hk => by
    show cond (Nat.beq 0 k) _ _ = _
    cases k with
    | zero => exact absurd rfl hk
    | succ k => rfl
  obtain ⟨v, us, rfl, hv0, rfl⟩ := hv
  have hv1 : slRel (Fr.reg ⟨[.slc 0], [(0, .arr t xs)]⟩) loc S w.heap 0 v := hv0
  simp only [slRel, hr0] at hv1
  have hreg := hc.reg 0
  rw [hr0] at hreg
  rcases hreg with ⟨_, hx0⟩ | ⟨hnil, c, e, hb, q1, q2, q3⟩
  · exact absurd hx0 (hne xs hx)
  have hb2 : w.heap[(loc 0).blk]? = some (.cells c e (0, 0)) := hb
  have hlt : (loc 0).blk < w.heap.size := (Array.getElem?_eq_some_iff.1 hb2).1
  have hcell : ∀ (i : Nat) (x : t.den), xs[i]? = some x → c[(loc 0).off + i]? = some (enc x) := by
    intro i x hi
    obtain ⟨ecs, g1, g2⟩ := q3 i x hi
    rw [(he _ _ _ _).1 g1] at g2
    have := g2 0 (enc x) rfl
    rw [hs] at this
    simpa using this
  have hholds : Sort.Holds enc w (loc 0).blk (loc 0).off xs.toArray := by
    intro j hj
    have hj' : j < xs.length := by simpa using hj
    have hx1 : xs[j]? = some (xs.toArray[j]!) := by simp [hj']
    refine ⟨?_, by simp [World.frozen?, hb2]⟩
    simp [World.cell?, hb2, hcell j _ hx1]
  subst hv1
  have hhd : hdl (loc 0) xs.length = .slice (some ⟨(loc 0).blk, (loc 0).off, none⟩) xs.length (loc 0).cap := by simp [hdl, hnil]
  rw [hhd]
  refine (h xs hx _ _ (loc 0).cap w hholds hlt).mono ?_
  rintro e' w' ⟨rfl, n, os, rfl⟩
  have hold : ∀ b, b < w.heap.size → b ≠ (loc 0).blk → (Sort.grow (Sort.putRow enc (Sort.ahead w n) (loc 0).blk (loc 0).off (g xs).toArray) os).heap[b]? = w.heap[b]? := by
    intro b hb' hne'
    rw [Sort.heap_grow_old _ _ (by simpa [Sort.putRow, Sort.mapBlock, Sort.ahead] using hb')]
    simp [Sort.putRow, Sort.mapBlock, Sort.ahead, Array.getElem?_modify, Ne.symm hne']
  have hnew : (Sort.grow (Sort.putRow enc (Sort.ahead w n) (loc 0).blk (loc 0).off (g xs).toArray) os).heap[(loc 0).blk]? = some (.cells (Sort.putCells enc (loc 0).off (g xs).toArray c) e (0, 0)) := by
    rw [Sort.heap_grow_old _ _ (by simpa [Sort.putRow, Sort.mapBlock, Sort.ahead] using hlt)]
    simp [Sort.putRow, Sort.mapBlock, Sort.ahead, Array.getElem?_modify, hb2, Sort.onCells]
  have hsz : w.heap.size ≤ (Sort.grow (Sort.putRow enc (Sort.ahead w n) (loc 0).blk (loc 0).off (g xs).toArray) os).heap.size := by
    simp [Sort.grow, Sort.putRow, Sort.mapBlock, Sort.ahead]
  have hsm : Sm w (Sort.grow (Sort.putRow enc (Sort.ahead w n) (loc 0).blk (loc 0).off (g xs).toArray) os) := ⟨rfl, rfl⟩
  generalize Sort.grow (Sort.putRow enc (Sort.ahead w n) (loc 0).blk (loc 0).off (g xs).toArray) os = w' at hold hnew hsz hsm
  refine ⟨_, rfl, hsm, ?_⟩
  have hS : ∀ b, S b → w'.heap[b]? = w.heap[b]? := fun b hb' => hold b (hc.bS b hb') fun e => hc.nS 0 (by rw [hr0]; exact hnil) (e ▸ hb')
  have hown : ∀ (ys : List t.den) (sl : List FV) k, owns (loc k) (Fr.reg ⟨sl, [(0, .arr t ys)]⟩ k) → k = 0 := by
    intro ys sl k hk
    by_cases h0 : k = 0
    · exact h0
    · rw [hrk ys sl k h0] at hk; exact hk.elim
  refine ⟨loc, S, ⟨⟨fun k => ?_, fun k k' hk hk' _ => by rw [hown _ _ _ hk, hown _ _ _ hk'], fun k hk => ?_, fun b hb' => Nat.lt_of_lt_of_le (hc.bS b hb') hsz⟩,
    ⟨hsz, fun b hb' hn => ?_, fun _ h => h, fun _ h => .inl h, fun k hk => ?_, fun b hb' ho => ?_, hc.bS⟩⟩, ⟨fun k v hv => ?_, fun k o v hv => ?_, fun k i o v hv => ?_, fun k v hv => ?_, fun b hb' => ⟨hb', hS b hb'⟩⟩, ?_⟩
  · by_cases h0 : k = 0
    · subst h0
      rw [hr0]
      refine .inr ⟨hnil, _, e, hnew, by rw [hl]; exact q1, by simpa [Sort.putCells] using q2, fun i x hi => ⟨[enc x], (he _ _ _ _).2 rfl, fun j u hu => ?_⟩⟩
      have hj : j = 0 := by
        have := (List.getElem?_eq_some_iff.1 hu).1
        simpa using this
      subst hj
      simp at hu; subst hu
      have hi' : i < (g xs).length := (List.getElem?_eq_some_iff.1 hi).1
      have hcs : (loc 0).off + i < c.size := by rw [hs] at q2; rw [hl] at hi'; omega
      have hgi : (g xs)[i] = x := by
        have := List.getElem?_eq_getElem hi'
        rw [hi] at this; simpa using this.symm
      simp [Sort.putCells, hs, hcs, hi', hgi]
    · rw [hrk _ _ k h0]; trivial
  · have h0 := hown _ _ _ hk
    subst h0
    exact hc.nS 0 (by rw [hr0]; exact hnil)
  · refine hold b hb' fun e => hn ⟨0, by rw [hr0]; exact hnil, e.symm⟩
  · have h0 := hown _ _ _ hk
    subst h0
    exact .inl ⟨0, by rw [hr0]; exact hnil, rfl⟩
  · obtain ⟨k, hk, rfl⟩ := ho
    exact hc.nS k hk hb'
  · by_cases h0 : k = 0
    · subst h0
      simp only [view, slRel, hr0] at hv ⊢
      rw [hl]; exact hv
    · simp only [view, slRel, hrk _ _ k h0] at hv
  · by_cases h0 : k = 0
    · subst h0
      simp only [view, ptRel, hr0]
    · simp only [view, ptRel, hrk _ _ k h0] at hv
  · by_cases h0 : k = 0
    · subst h0
      simp only [view, elRel, hr0] at hv ⊢
      rw [hl]; exact hv
    · simp only [view, elRel, hrk _ _ k h0] at hv
  · by_cases h0 : k = 0
    · subst h0
      simp only [view, mpRel, hr0]
    · simp only [view, mpRel, hrk _ _ k h0] at hv
  · exact ⟨[], rfl, rfl⟩

/-- The sorted list of strings. -/
def sortS (l : List Bytes) : List Bytes := l.mergeSort fun x y => decide (x ≤ y)
def sortIm (l : List Int) : List Int := l.mergeSort fun x y => decide (x ≤ y)

theorem sortS_sound {P : Program} {ρ : Shelf.Ren} (Ly : Proofs.Lays.n190 P ρ) {G : (Nat → Prop) → Array Obj → Prop} :
    Sound P G (ρ.f 190) (genS [false] true ⟨[.slc 0], [(0, .arr .str [])]⟩ [.slice .str] (fun x => decide (0 < List.length x.1) && decide (List.length x.1 ≤ 1000000)) (fun x => ⟨[], [(0, .arr .str (sortS x.1))]⟩)) :=
  inplace_sound (t := .str) (enc := Proofs.encStr) rfl (fun S h x cs => Iff.rfl) (ok := fun xs => decide (0 < List.length xs) && decide (List.length xs ≤ 1000000)) (g := sortS) (fun xs => List.length_mergeSort xs)
    (fun xs h e => by subst e; simp at h)
    (fun xs h blk off cap w hH hb => Proofs.Any.slices_Sort_string Ly blk off cap xs w hH hb (by simp at h; omega))

theorem sortI_sound {P : Program} {ρ : Shelf.Ren} (Ly : Proofs.Lays.n189 P ρ) {G : (Nat → Prop) → Array Obj → Prop} :
    Sound P G (ρ.f 189) (genS [false] true ⟨[.slc 0], [(0, .arr (.int .i64) [])]⟩ [.slice (.int .i64)] (fun x => decide (0 < List.length x.1) && decide (List.length x.1 ≤ 1000000)) (fun x => ⟨[], [(0, .arr (.int .i64) (sortIm x.1))]⟩)) :=
  inplace_sound (t := .int .i64) (enc := Value.int .i64) rfl (fun S h x cs => Iff.rfl) (ok := fun xs => decide (0 < List.length xs) && decide (List.length xs ≤ 1000000)) (g := sortIm) (fun xs => List.length_mergeSort xs)
    (fun xs h e => by subst e; simp at h)
    (fun xs h blk off cap w hH hb => Proofs.Any.slices_Sort_int Ly blk off cap xs w hH hb (by simp at h; omega))

/-- A contract in two parts. -/
theorem split_sound {P : Program} {G : (Nat → Prop) → Array Obj → Prop} {f : FuncId} {md : List Bool} {ret : Bool} {pat : Fr} {ts : List Tc} {ok ok1 ok2 : Tup ts → Bool} {out out1 out2 : Tup ts → Fr}
    (h1 : Sound P G f (genS md ret pat ts ok1 out1)) (h2 : Sound P G f (genS md ret pat ts ok2 out2))
    (hs : ∀ x, ok x = true → (ok1 x = true ∧ out1 x = out x) ∨ (ok2 x = true ∧ out2 x = out x)) : Sound P G f (genS md ret pat ts ok out) := by
  intro pk o hok hout
  simp only [genS] at hok hout
  cases hm : matchF pat pk with
  | none => rw [hm] at hok; cases hok
  | some hsl =>
    rw [hm] at hok hout
    simp only at hok hout
    cases hd : dats ts hsl with
    | none => rw [hd] at hok; cases hok
    | some x =>
      rw [hd] at hok hout
      simp only [Option.some.injEq] at hok hout
      rcases hs x hok with ⟨k1, k2⟩ | ⟨k1, k2⟩
      · exact h1 pk o (by simp only [genS, hm, hd]; exact k1) (by simp only [genS, hm, hd]; rw [k2, hout])
      · exact h2 pk o (by simp only [genS, hm, hd]; exact k1) (by simp only [genS, hm, hd]; rw [k2, hout])
end Go.Ev

/-
  DERIVED: THE SHELF's CONTRACTS AT THIS DUMP, IN PLAIN WORDS (tools/lay-plain.mjs out of 'GleeNs.lean', which tools/lay-shelf.mjs wrote): THE SAME DECLARATIONS UNDER THE SAME NAMES: 'import', 'namespace', 'open', 'def', 'theorem' AND NOTHING ELSE: no command of the shelf's: FOR A HAND-IN. Each laying: the table of numbers ('.._ren') and one theorem, a field a fact of the dump's own or the kernel's comparison; each contract: ONE APPLICATION.
-/
namespace Go.Proofs
open Go.Shelf
def Tryz.lays137_ren : Go.Shelf.Ren := ⟨fun | 137 => 69 | 217 => 82 | 266 => 96 | n => n, fun | 9 => 9 | 5 => 5 | 3 => 3 | n => n, fun | n => n⟩
theorem Tryz.lays137 : Go.Proofs.Lays.n137 Tryz.prog Tryz.lays137_ren := {
  mixed := by kernel_rfl
  f137 := Tryz.func69.trans (congrArg some (by kernel_rfl))
  f217 := Tryz.func82.trans (congrArg some (by kernel_rfl))
  f266 := Tryz.func96.trans (congrArg some (by kernel_rfl))
  t3 := Tryz.underlying3
  a3 := Tryz.isAgg3
  z3 := Tryz.sizeOf3
  v3 := Tryz.zeroValue3
  t5 := Tryz.underlying5
  a5 := Tryz.isAgg5
  z5 := Tryz.sizeOf5
  v5 := Tryz.zeroValue5
  t9 := Tryz.underlying9
  a9 := Tryz.isAgg9
  z9 := Tryz.sizeOf9
  v9 := Tryz.zeroValue9 }
def Tryz.lays160_ren : Go.Shelf.Ren := ⟨fun | 160 => 70 | 232 => 84 | 231 => 83 | 227 => 85 | 234 => 87 | 233 => 86 | 236 => 89 | 235 => 88 | 228 => 97 | 271 => 100 | 151 => 99 | 197 => 98 | 120 => 104 | 152 => 103 | 260 => 102 | 137 => 69 | 119 => 105 | 224 => 106 | 225 => 107 | 217 => 82 | 266 => 96 | n => n, fun | 9 => 9 | 4 => 4 | 3 => 3 | 5 => 5 | 117 => 113 | 116 => 112 | 0 => 0 | 124 => 116 | 21 => 21 | 105 => 124 | 46 => 95 | 119 => 131 | 139 => 134 | 138 => 133 | n => n, fun | 3 => 1 | 4 => 2 | n => n⟩
theorem Tryz.lays160 : Go.Proofs.Lays.n160 Tryz.prog Tryz.lays160_ren := {
  mixed := by kernel_rfl
  f119 := Tryz.func105.trans (congrArg some (by kernel_rfl))
  f120 := Tryz.func104.trans (congrArg some (by kernel_rfl))
  f137 := Tryz.func69.trans (congrArg some (by kernel_rfl))
  f151 := Tryz.func99.trans (congrArg some (by kernel_rfl))
  f152 := Tryz.func103.trans (congrArg some (by kernel_rfl))
  f160 := Tryz.func70.trans (congrArg some (by kernel_rfl))
  f197 := Tryz.func98.trans (congrArg some (by kernel_rfl))
  f217 := Tryz.func82.trans (congrArg some (by kernel_rfl))
  f224 := Tryz.func106.trans (congrArg some (by kernel_rfl))
  f225 := Tryz.func107.trans (congrArg some (by kernel_rfl))
  f227 := Tryz.func85.trans (congrArg some (by kernel_rfl))
  f228 := Tryz.func97.trans (congrArg some (by kernel_rfl))
  f231 := Tryz.func83.trans (congrArg some (by kernel_rfl))
  f232 := Tryz.func84.trans (congrArg some (by kernel_rfl))
  f233 := Tryz.func86.trans (congrArg some (by kernel_rfl))
  f234 := Tryz.func87.trans (congrArg some (by kernel_rfl))
  f235 := Tryz.func88.trans (congrArg some (by kernel_rfl))
  f236 := Tryz.func89.trans (congrArg some (by kernel_rfl))
  f260 := Tryz.func102.trans (congrArg some (by kernel_rfl))
  f266 := Tryz.func96.trans (congrArg some (by kernel_rfl))
  f271 := Tryz.func100.trans (congrArg some (by kernel_rfl))
  t0 := Tryz.underlying0
  a0 := Tryz.isAgg0
  z0 := Tryz.sizeOf0
  v0 := Tryz.zeroValue0
  t3 := Tryz.underlying3
  a3 := Tryz.isAgg3
  z3 := Tryz.sizeOf3
  v3 := Tryz.zeroValue3
  t4 := Tryz.underlying4
  a4 := Tryz.isAgg4
  z4 := Tryz.sizeOf4
  v4 := Tryz.zeroValue4
  t5 := Tryz.underlying5
  a5 := Tryz.isAgg5
  z5 := Tryz.sizeOf5
  v5 := Tryz.zeroValue5
  t9 := Tryz.underlying9
  a9 := Tryz.isAgg9
  z9 := Tryz.sizeOf9
  v9 := Tryz.zeroValue9
  t21 := Tryz.underlying21
  a21 := Tryz.isAgg21
  z21 := Tryz.sizeOf21
  v21 := Tryz.zeroValue21
  t46 := Tryz.underlying95
  a46 := Tryz.isAgg95
  z46 := Tryz.sizeOf95
  v46 := Tryz.zeroValue95
  t105 := Tryz.underlying124
  a105 := Tryz.isAgg124
  z105 := Tryz.sizeOf124
  v105 := Tryz.zeroValue124
  t116 := Tryz.underlying112
  a116 := Tryz.isAgg112
  z116 := Tryz.sizeOf112
  t117 := Tryz.underlying113
  a117 := Tryz.isAgg113
  z117 := Tryz.sizeOf113
  v117 := Tryz.zeroValue113
  t119 := Tryz.underlying131
  a119 := Tryz.isAgg131
  z119 := Tryz.sizeOf131
  t124 := Tryz.underlying116
  a124 := Tryz.isAgg116
  z124 := Tryz.sizeOf116
  v124 := Tryz.zeroValue116
  t138 := Tryz.underlying133
  a138 := Tryz.isAgg133
  z138 := Tryz.sizeOf133
  v138 := Tryz.zeroValue133
  t139 := Tryz.underlying134
  a139 := Tryz.isAgg134
  z139 := Tryz.sizeOf134
  v139 := Tryz.zeroValue134
  g3 := by kernel_rfl
  g4 := by kernel_rfl }
def Tryz.lays190_ren : Go.Shelf.Ren := ⟨fun | 190 => 58 | 125 => 68 | 258 => 67 | 128 => 80 | 129 => 81 | 302 => 71 | 303 => 72 | 304 => 73 | 305 => 74 | 306 => 75 | 307 => 76 | 308 => 77 | 309 => 78 | 310 => 79 | 333 => 90 | 329 => 91 | 330 => 92 | 334 => 93 | 335 => 94 | 336 => 95 | 344 => 101 | n => n, fun | 31 => 35 | 9 => 9 | 3 => 3 | 46 => 95 | 0 => 0 | 51 => 107 | 53 => 109 | 4 => 4 | 183 => 100 | 182 => 99 | 131 => 104 | 5 => 5 | 218 => 117 | 222 => 121 | 228 => 127 | 229 => 128 | n => n, fun | n => n⟩
theorem Tryz.lays190 : Go.Proofs.Lays.n190 Tryz.prog Tryz.lays190_ren := {
  mixed := by kernel_rfl
  f125 := Tryz.func68.trans (congrArg some (by kernel_rfl))
  f128 := Tryz.func80.trans (congrArg some (by kernel_rfl))
  f129 := Tryz.func81.trans (congrArg some (by kernel_rfl))
  f190 := Tryz.func58.trans (congrArg some (by kernel_rfl))
  f258 := Tryz.func67.trans (congrArg some (by kernel_rfl))
  f302 := Tryz.func71.trans (congrArg some (by kernel_rfl))
  f303 := Tryz.func72.trans (congrArg some (by kernel_rfl))
  f304 := Tryz.func73.trans (congrArg some (by kernel_rfl))
  f305 := Tryz.func74.trans (congrArg some (by kernel_rfl))
  f306 := Tryz.func75.trans (congrArg some (by kernel_rfl))
  f307 := Tryz.func76.trans (congrArg some (by kernel_rfl))
  f308 := Tryz.func77.trans (congrArg some (by kernel_rfl))
  f309 := Tryz.func78.trans (congrArg some (by kernel_rfl))
  f310 := Tryz.func79.trans (congrArg some (by kernel_rfl))
  f329 := Tryz.func91.trans (congrArg some (by kernel_rfl))
  f330 := Tryz.func92.trans (congrArg some (by kernel_rfl))
  f333 := Tryz.func90.trans (congrArg some (by kernel_rfl))
  f334 := Tryz.func93.trans (congrArg some (by kernel_rfl))
  f335 := Tryz.func94.trans (congrArg some (by kernel_rfl))
  f336 := Tryz.func95.trans (congrArg some (by kernel_rfl))
  f344 := Tryz.func101.trans (congrArg some (by kernel_rfl))
  t0 := Tryz.underlying0
  a0 := Tryz.isAgg0
  z0 := Tryz.sizeOf0
  v0 := Tryz.zeroValue0
  t3 := Tryz.underlying3
  a3 := Tryz.isAgg3
  z3 := Tryz.sizeOf3
  v3 := Tryz.zeroValue3
  t4 := Tryz.underlying4
  a4 := Tryz.isAgg4
  z4 := Tryz.sizeOf4
  v4 := Tryz.zeroValue4
  t5 := Tryz.underlying5
  a5 := Tryz.isAgg5
  z5 := Tryz.sizeOf5
  v5 := Tryz.zeroValue5
  t9 := Tryz.underlying9
  a9 := Tryz.isAgg9
  z9 := Tryz.sizeOf9
  v9 := Tryz.zeroValue9
  t31 := Tryz.underlying35
  a31 := Tryz.isAgg35
  z31 := Tryz.sizeOf35
  v31 := Tryz.zeroValue35
  t46 := Tryz.underlying95
  a46 := Tryz.isAgg95
  z46 := Tryz.sizeOf95
  v46 := Tryz.zeroValue95
  t51 := Tryz.underlying107
  a51 := Tryz.isAgg107
  z51 := Tryz.sizeOf107
  v51 := Tryz.zeroValue107
  t53 := Tryz.underlying109
  a53 := Tryz.isAgg109
  z53 := Tryz.sizeOf109
  v53 := Tryz.zeroValue109
  t131 := Tryz.underlying104
  a131 := Tryz.isAgg104
  z131 := Tryz.sizeOf104
  v131 := Tryz.zeroValue104
  t182 := Tryz.underlying99
  a182 := Tryz.isAgg99
  z182 := Tryz.sizeOf99
  v182 := Tryz.zeroValue99
  t183 := Tryz.underlying100
  a183 := Tryz.isAgg100
  z183 := Tryz.sizeOf100
  v183 := Tryz.zeroValue100
  t218 := Tryz.underlying117
  a218 := Tryz.isAgg117
  z218 := Tryz.sizeOf117
  v218 := Tryz.zeroValue117
  t222 := Tryz.underlying121
  a222 := Tryz.isAgg121
  z222 := Tryz.sizeOf121
  v222 := Tryz.zeroValue121
  t228 := Tryz.underlying127
  a228 := Tryz.isAgg127
  z228 := Tryz.sizeOf127
  v228 := Tryz.zeroValue127
  t229 := Tryz.underlying128
  a229 := Tryz.isAgg128
  z229 := Tryz.sizeOf128
  v229 := Tryz.zeroValue128 }
end Go.Proofs

set_option linter.unusedVariables false
set_option linter.unusedSimpArgs false
namespace Go.Ev.N
open Go Go.Ev Go.Proofs
theorem r69 : R69 := by
  refine ⟨pure_sound (P := Tryz.prog) (G := En0.gl) (ts := [.str, .int .u8]) (out := fun x => .dat tI (indexB x.1 x.2.1)) (fun _ => rfl) (fun _ => rfl) ?_, enters_of Tryz.func69 rfl rfl⟩
  rintro ⟨s, c, _⟩ _ w V vals hV _ ⟨u1, us, rfl, h1, u2, us', rfl, h2, rfl⟩
  cases h1
  cases h2
  refine (Any.strings_IndexByte Tryz.lays137 ⟨List.toArray s⟩ c w).mono ?_
  rintro e w' ⟨rfl, rfl⟩
  exact ⟨_, rfl, RowKit.Below.refl _ _, fun _ => rfl⟩

theorem r70 : R70 := by
  refine ⟨pure_sound (P := Tryz.prog) (G := En0.gl) (ts := [.str, .str]) (out := fun x => .dat .str (trimB x.1 x.2.1)) (fun _ => rfl) (fun _ => rfl) ?_, enters_of Tryz.func70 rfl rfl⟩
  rintro ⟨s, c, _⟩ hok w V vals hV _ ⟨u1, us, rfl, h1, u2, us', rfl, h2, rfl⟩
  cases h1
  cases h2
  have hok' : (decide (List.length s ≤ 1000000) && decide (List.length c ≤ 1000) && c.all fun b => decide (b.toNat < 128)) = true := hok
  simp only [Bool.and_eq_true, decide_eq_true_eq] at hok'
  obtain ⟨⟨h1, h2⟩, h3⟩ := hok'
  refine (Any.strings_Trim_laid Tryz.lays160 (by kernel_rfl) ⟨List.toArray s⟩ ⟨List.toArray c⟩ w (by show (List.toArray s).size ≤ _; simp; omega) (by show (List.toArray c).size < _; simp; omega) (ascii_of_all h3)).mono ?_
  rintro e w' ⟨rfl, hb⟩
  exact ⟨_, rfl, hb, fun _ => rfl⟩

theorem indexByte_mem (b : UInt8) : ∀ (l : Bytes), decide (Lib.indexByte l b < 0) = !l.contains b
  | [] => rfl
  | x :: l => by
    have ih := indexByte_mem b l
    have hg := Lib.indexByte_ge l b
    unfold Lib.indexByte
    by_cases h : x = b
    · subst h; simp
    · have h1 : (x == b) = false := beq_eq_false_iff_ne.2 h
      have h2 : (b == x) = false := beq_eq_false_iff_ne.2 (fun e => h e.symm)
      rw [h1]
      simp only [List.contains_cons, h2, Bool.false_or, Bool.false_eq_true, if_false]
      rw [← ih]
      by_cases h3 : Lib.indexByte l b = -1
      · rw [h3]; rfl
      · have h4 : (Lib.indexByte l b == -1) = false := beq_eq_false_iff_ne.2 h3
        rw [h4]
        simp only [Bool.false_eq_true, if_false]
        rw [dF (by omega), dF (by omega)]

theorem toU (b : UInt8) : (Int.toNat ((b.toNat : Nat) : Int)).toUInt8 = b := by
  show (b.toNat).toUInt8 = b
  exact UInt8.ofNat_toNat

theorem only_all (s cs : Bytes) : onlyB s cs = s.all fun b => cs.contains b := by
  unfold onlyB
  congr 1
  funext b
  unfold indexB
  rw [toU, indexByte_mem, Bool.not_not]

theorem dw_nil {α : Type} (p : α → Bool) : ∀ (l : List α), l.dropWhile p = [] ↔ ∀ x ∈ l, p x = true
  | [] => by simp
  | x :: l => by
    rw [List.dropWhile_cons]
    cases h : p x with
    | true => simp [h, dw_nil p l]
    | false => simp [h]

theorem trim_nil (s cs : Bytes) : (trimB s cs == []) = s.all fun b => cs.contains b := by
  unfold trimB Lib.trimS Lib.trimLeftS Lib.trimRightS
  rw [Bool.eq_iff_iff, beq_iff_eq, dw_nil, List.all_eq_true]
  constructor
  · intro h
    -- a byte beyond the set would stay
    have h' : ∀ x ∈ s.reverse.dropWhile (fun b => cs.contains b), cs.contains x = true := fun x hx => h x (by simpa using hx)
    have h2 : s.reverse.dropWhile (fun b => cs.contains b) = [] := by
      cases hd : s.reverse.dropWhile (fun b => cs.contains b) with
      | nil => rfl
      | cons x l =>
        have := List.head?_dropWhile_not (fun b => cs.contains b) s.reverse
        rw [hd] at this h'
        simp only [List.head?_cons] at this
        have h3 := h' x (List.mem_cons_self ..)
        simp only [h3] at this
        simp at this
    rw [dw_nil] at h2
    exact fun x hx => h2 x (by simpa using hx)
  · intro h x hx
    have := (List.dropWhile_sublist (fun b => cs.contains b) (l := s.reverse)).subset (by simpa using hx)
    exact h x (by simpa using this)

theorem isKey_eq (s : Bytes) : isKey s = keyR s := by
  unfold isKey keyR
  rw [trim_nil, only_all, only_all]
  cases s with
  | nil => rfl
  | cons x l =>
    have e1 : (!((x :: l : Bytes) == [])) = true := rfl
    have e2 : inR ((x :: l : Bytes).length : Int) 1 40 = decide (((x :: l : Bytes).length : Int) ≤ 40) := by
      unfold inR
      rw [dT (p := (1 : Int) ≤ ((x :: l : Bytes).length : Int)) (by simp; omega), Bool.true_and]
    have e3 : ((x :: l : Bytes).getD 0 0) = x := rfl
    have e4 : (x :: l : Bytes).take 1 = [x] := rfl
    have e5 : decide (indexB smallsB ((x.toNat : Nat) : Int) ≥ 0) = smallsB.contains x := by
      unfold indexB
      rw [toU]
      have := indexByte_mem x smallsB
      by_cases h : Lib.indexByte smallsB x < 0
      · rw [dT h] at this
        rw [dF (by omega)]
        cases hc : smallsB.contains x <;> rw [hc] at this <;> first | rfl | cases this
      · rw [dF h] at this
        rw [dT (by omega)]
        cases hc : smallsB.contains x <;> rw [hc] at this <;> first | rfl | cases this
    rw [e1, e2, e3, e4, e5, Bool.true_and]
    simp only [List.all_cons, List.all_nil, Bool.and_true]

theorem isKey_fun : isKey = keyR := funext isKey_eq

theorem r24 : R24 := by
  intro _
  rw [f24_run]
  unfold longP
  rw [isKey_fun]
  rfl

end Go.Ev.N
