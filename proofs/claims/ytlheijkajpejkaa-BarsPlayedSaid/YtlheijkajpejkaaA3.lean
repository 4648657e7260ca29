import Derived.Test.YtlheijkajpejkaaA2
import Derived.Test.YtlheijkajpejkaaProg
import Derived.WalkKit
import Derived.ProofKit
import Derived.OpenShut
import Derived.ChangeOld
import Derived.Carry
import Derived.SizedLaws
set_option linter.unusedVariables false
set_option linter.unusedSimpArgs false
namespace Go.Ev.B
open Go Go.Ev Go.Proofs

def tab : List (Nat × TI) := [
  (2, ⟨1, false, [dI .i64 0], some tI, [], none, 8, true⟩),
  (3, ⟨1, false, [dI .i64 0], some tI, [], none, 8, true⟩),
  (4, ⟨1, false, [dB false], some .bool, [], none, 1, true⟩),
  (5, ⟨1, false, [dI .u8 0], some (.int .u8), [], none, 1, true⟩),
  (6, ⟨1, false, [dI .u8 0], some (.int .u8), [], none, 1, true⟩),
  (7, ⟨4, true, [dI .i64 0, dI .i64 0, dB false, dI .u8 0], some (.st (.pair tI (.pair tI (.pair .bool (.int .u8))))), [(0, 2), (1, 3), (2, 4), (3, 6)], none, 24, false⟩),
  (9, ⟨1, false, [dS []], some .str, [], none, 16, true⟩),
  (12, ⟨1, false, [dI .u64 0], some (.int .u64), [], none, 8, true⟩),
  (13, ⟨2, true, [dS [], dI .u64 0], some (.st (.pair .str (.int .u64))), [(0, 9), (1, 12)], none, 24, false⟩),
  (17, ⟨1, false, [.nilp], none, [], none, 8, false⟩),
  (18, ⟨1, true, [.nilp], none, [(0, 17)], none, 8, false⟩),
  (19, ⟨1, true, [.nilp], none, [(0, 17)], none, 8, false⟩),
  (21, ⟨1, false, [dI .i32 0], some (.int .i32), [], none, 4, true⟩),
  (22, ⟨1, false, [.nil0], some (.slice tI), [], some 3, 24, false⟩),
  (23, ⟨1, false, [.nilp], none, [], none, 8, false⟩),
  (24, ⟨2, true, [.nil0, dI .i64 0], some (.st (.pair (.slice tI) tI)), [(0, 22), (1, 3)], none, 32, false⟩),
  (25, ⟨2, true, [.nil0, dI .i64 0], some (.st (.pair (.slice tI) tI)), [(0, 22), (1, 3)], none, 32, false⟩),
  (26, ⟨1, false, [.nil0], some (.slice tBar), [], some 49, 24, false⟩),
  (27, ⟨1, false, [.nilf], none, [], none, 8, false⟩),
  (28, ⟨1, false, [.nilf], none, [], none, 8, false⟩),
  (29, ⟨1, false, [dI .i64 0], some tI, [], none, 8, true⟩),
  (31, ⟨1, false, [.nilf], none, [], none, 8, false⟩),
  (32, ⟨2, true, [dI .i64 0, dI .i64 0], some tFrac, [(0, 3), (1, 3)], none, 16, true⟩),
  (33, ⟨2, true, [dI .i64 0, dI .i64 0], some tFrac, [(0, 3), (1, 3)], none, 16, true⟩),
  (35, ⟨1, false, [.nilf], none, [], none, 8, false⟩),
  (36, ⟨1, false, [.nil0], some (.slice tFrac), [], some 33, 24, false⟩),
  (38, ⟨1, false, [.nilf], none, [], none, 8, false⟩),
  (39, ⟨1, false, [.nilf], none, [], none, 8, false⟩),
  (47, ⟨1, false, [.nilp], none, [], none, 8, false⟩),
  (49, ⟨5, true, [dI .i64 0, dI .i64 0, dI .i64 0, dI .i64 0, dB false], some tBar, [(0, 3), (1, 3), (2, 3), (3, 3), (4, 4)], none, 40, true⟩),
  (58, ⟨1, false, [.nil0], some (.slice tRep), [], some 66, 24, false⟩),
  (62, ⟨1, false, [.nilf], none, [], none, 8, false⟩),
  (66, ⟨3, true, [dI .i64 0, dI .i64 0, dI .i64 0], some tRep, [(0, 3), (1, 3), (2, 3)], none, 24, true⟩)]
noncomputable def En0 : Env := ⟨ttOf tab, fun _ => none⟩
noncomputable def I33 : FnI := ⟨En0, ⟨[], []⟩, Try.f33, codeOf Try.f33, [.data tI], 0⟩
noncomputable def S33 : Spec := pureS [tI, tI] [.d tI] (fun x => true) (fun x => (below x.1 x.2.1, ()))
noncomputable def En33 : Env := En0.add 33 S33
noncomputable def I18 : FnI := ⟨En33, ⟨[], []⟩, Try.f18, codeOf Try.f18, [.data tI], 1⟩
noncomputable def S18 : Spec := methS [.slice tI, tI] [tI] [.d tI] (fun s x => atOk 1 s.2.1) (fun s x => ((s.1, nextAt s.2.1, ()), (next s.1 s.2.1 x.1, ())))
noncomputable def En18 : Env := En33.add 18 S18
noncomputable def I5 : FnI := ⟨En18, ⟨[], []⟩, Try.f5, codeOf Try.f5, [.data .bool], 1⟩
noncomputable def S5 : Spec := methS [.slice tI, tI] [tI] [.d .bool] (fun s x => atOk 1 s.2.1) (fun s x => ((s.1, nextAt s.2.1, ()), (next s.1 s.2.1 x.1 == 0, ())))
noncomputable def En5 : Env := En18.add 5 S5
noncomputable def I20 : FnI := ⟨En5, ⟨[], []⟩, Try.f20, codeOf Try.f20, [.data tI], 1⟩
noncomputable def S20 : Spec := methS [.slice tI, tI] [(.slice tI)] [.d tI] (fun s x => atOk 1 s.2.1 && decide (0 < List.length x.1) && decide (List.length x.1 ≤ 1000)) (fun s x => ((s.1, nextAt s.2.1, ()), (pick s.1 s.2.1 x.1, ())))
noncomputable def En20 : Env := En5.add 20 S20
noncomputable def I31 : FnI := ⟨En20, ⟨[], []⟩, Try.f31, codeOf Try.f31, [.data tBar], 2⟩
noncomputable def S31 : Spec := closS [.slice tI, tI] [.d tBar] (fun s => atOk 8 s.2.1) (fun s => ((s.1, nextAt (nextAt s.2.1), ()), (rbar s.1 s.2.1, ())))
noncomputable def En31 : Env := En20.add 31 S31
noncomputable def I32 : FnI := ⟨En31, ⟨[], []⟩, Try.f32, codeOf Try.f32, [.data tI], 1⟩
noncomputable def S32 : Spec := methS [.slice tI, tI] [tI, tI] [.d tI] (fun s x => atOk 1 s.2.1) (fun s x => ((s.1, rangeAt s.2.1 x.1 x.2.1, ()), (rangeS s.1 s.2.1 x.1 x.2.1, ())))
noncomputable def En32 : Env := En31.add 32 S32
noncomputable def I17 : FnI := ⟨En32, ⟨[(0, [1, 3, 4, 12, 13], [(3, tBar)]), (2, [1, 3, 4, 5, 6, 7, 12, 13, 27, 28], [(3, tBar)])], []⟩, Try.f17, codeOf Try.f17, [.own tBar], 1⟩
noncomputable def rightBars (L : List Int) (at_ : Int) : Int × List Bar := Classical.epsilon fun p => (at_ ≤ p.1 ∧ p.1 ≤ at_ + 200 ∧ 1 ≤ p.2.length ∧ p.2.length ≤ 12) ∧ I17.run ⟨[.ptr 0 0], [(0, .box [.dat (.slice tI) L, .dat tI at_])]⟩ = some ⟨[.slc 2], [(0, .box [.dat (.slice tI) L, .dat tI p.1]), (2, .arr tBar p.2)]⟩
noncomputable def S17 : Spec := methS [.slice tI, tI] [] [.o tBar] (fun s x => atOk 1000 s.2.1) (fun s x => ((s.1, (rightBars s.1 s.2.1).1, ()), ((rightBars s.1 s.2.1).2, ())))
noncomputable def En17 : Env := En32.add 17 S17
noncomputable def I19 : FnI := ⟨En17, ⟨[], []⟩, Try.f19, codeOf Try.f19, [.data tI], 1⟩
noncomputable def S19 : Spec := methS [.slice tI, tI] [tI, tI] [.d tI] (fun s x => atOk 8 s.2.1) (fun s x => ((s.1, (oddS s.1 s.2.1 x.1 x.2.1).1, ()), ((oddS s.1 s.2.1 x.1 x.2.1).2, ())))
noncomputable def En19 : Env := En17.add 19 S19
noncomputable def I4 : FnI := ⟨En19, ⟨[], []⟩, Try.f4, codeOf Try.f4, [.own tBar], 1⟩
noncomputable def barsS (L : List Int) (at_ : Int) : Int × List Bar := Classical.epsilon fun p => (at_ ≤ p.1 ∧ p.1 ≤ at_ + 300 ∧ p.2.length ≤ 12) ∧ I4.run ⟨[.ptr 0 0], [(0, .box [.dat (.slice tI) L, .dat tI at_])]⟩ = some ⟨[.slc 2], [(0, .box [.dat (.slice tI) L, .dat tI p.1]), (2, .arr tBar p.2)]⟩
noncomputable def S4 : Spec := methS [.slice tI, tI] [] [.o tBar] (fun s x => atOk 2000 s.2.1) (fun s x => ((s.1, (barsS s.1 s.2.1).1, ()), ((barsS s.1 s.2.1).2, ())))
noncomputable def En4 : Env := En19.add 4 S4
noncomputable def I38 : FnI := ⟨En4, ⟨[], []⟩, Try.f38, codeOf Try.f38, [.data .bool], 0⟩
noncomputable def S38 : Spec := pureS [tI, tI, tI] [.d .bool] (fun x => true) (fun x => (outside x.1 x.2.1 x.2.2.1, ()))
noncomputable def En38 : Env := En4.add 38 S38
noncomputable def I35 : FnI := ⟨En38, ⟨[(0, [0, 1, 7, 8], [])], []⟩, Try.f35, codeOf Try.f35, [.data tI], 0⟩
noncomputable def S35 : Spec := pureS [(.slice tI), tI] [.d tI] (fun x => decide (List.length x.1 ≤ 1000000)) (fun x => (indexI x.1 x.2.1, ()))
noncomputable def En35 : Env := En38.add 35 S35
noncomputable def I25 : FnI := ⟨En35, ⟨[], []⟩, Try.f25, codeOf Try.f25, [.data .bool], 0⟩
noncomputable def S25 : Spec := pureS [(.slice tI), tI] [.d .bool] (fun x => decide (List.length x.1 ≤ 1000000)) (fun x => (containsI x.1 x.2.1, ()))
noncomputable def En25 : Env := En35.add 25 S25
noncomputable def I39 : FnI := ⟨En25, ⟨[], []⟩, Try.f39, codeOf Try.f39, [.data .bool], 0⟩
noncomputable def S39 : Spec := pureS [tI] [.d .bool] (fun x => true) (fun x => (isUnit x.1, ()))
noncomputable def En39 : Env := En25.add 39 S39
noncomputable def I37 : FnI := ⟨En39, ⟨[], []⟩, Try.f37, codeOf Try.f37, [.data tI], 0⟩
noncomputable def S37 : Spec := pureS [tBar] [.d tI] (fun x => true) (fun x => (barFault x.1, ()))
noncomputable def En37 : Env := En39.add 37 S37
noncomputable def I28 : FnI := ⟨En37, ⟨[(0, [0, 3, 7, 8, 9], [])], []⟩, Try.f28, codeOf Try.f28, [.data tI], 0⟩
noncomputable def S28 : Spec := pureS [(.slice tBar)] [.d tI] (fun x => decide (List.length x.1 ≤ 300)) (fun x => (rulesFault x.1, ()))
noncomputable def En28 : Env := En37.add 28 S28
noncomputable def I29 : FnI := ⟨En28, ⟨[(0, [0, 4, 5, 12, 13, 14], [(4, tRep)]), (2, [0, 4, 5, 44, 45, 46], []), (4, [0, 4, 5, 9, 44, 45, 46, 55, 56, 57], [])], []⟩, Try.f29, codeOf Try.f29, [.own tRep, .data .bool], 0⟩
noncomputable def S29 : Spec := pureS [(.slice tBar)] [.o tRep, .d .bool] (fun x => decide (List.length x.1 ≤ 300)) (fun x => ((repeats x.1).1, (repeats x.1).2, ()))
noncomputable def En29 : Env := En28.add 29 S29
noncomputable def I30 : FnI := ⟨En29, ⟨[(0, [0, 2, 7, 12, 13, 14], [(7, tI)]), (2, [0, 2, 7, 9, 10, 12, 13, 14], [(7, tI)]), (4, [0, 2, 7, 9, 10, 11, 12, 13, 14], [(7, tI)])], []⟩, Try.f30, codeOf Try.f30, [.own tI], 0⟩
noncomputable def S30 : Spec := pureS [(.slice tBar), (.slice tRep), tI] [.o tI] (fun x => orderOk x.1 x.2.1 && x.2.2.1 == 2000) (fun x => (order x.1 x.2.1 x.2.2.1, ()))
noncomputable def En30 : Env := En29.add 30 S30
noncomputable def I13 : FnI := ⟨En30, ⟨[], []⟩, Try.f13, codeOf Try.f13, [.data tI], 0⟩
noncomputable def S13 : Spec := pureS [(.slice tBar)] [.d tI] (fun x => true) (fun x => (checkBars x.1, ()))
noncomputable def En13 : Env := En30.add 13 S13
noncomputable def I21 : FnI := ⟨En13, ⟨[], []⟩, Try.f21, codeOf Try.f21, [.own tI], 0⟩
noncomputable def S21 : Spec := pureS [(.slice tBar)] [.o tI] (fun x => checkBars x.1 == 0) (fun x => (played x.1, ()))
noncomputable def En21 : Env := En13.add 21 S21
noncomputable def I6 : FnI := ⟨En21, ⟨[], []⟩, Try.f6, codeOf Try.f6, [.own tI, .data tI], 0⟩
noncomputable def S6 : Spec := pureS [(.slice tBar)] [.o tI, .d tI] (fun x => true) (fun x => ((pOrder x.1).1, (pOrder x.1).2, ()))
noncomputable def En6 : Env := En21.add 6 S6
noncomputable def I22 : FnI := ⟨En6, ⟨[], []⟩, Try.f22, codeOf Try.f22, [.data tI], 0⟩
noncomputable def S22 : Spec := pureS [tBar] [.d tI] (fun x => x.1.2.1 != 0) (fun x => (long x.1, ()))
noncomputable def En22 : Env := En6.add 22 S22
noncomputable def I34 : FnI := ⟨En22, ⟨[(0, [0, 1, 4, 5, 6], [])], []⟩, Try.f34, codeOf Try.f34, [.data tFrac], 0⟩
noncomputable def S34 : Spec := pureS [tI, tI] [.d tFrac] (fun x => x.2.1 == 192) (fun x => (lowest x.1 x.2.1, ()))
noncomputable def En34 : Env := En22.add 34 S34
noncomputable def I23 : FnI := ⟨En34, ⟨[], []⟩, Try.f23, codeOf Try.f23, [.data tFrac], 0⟩
noncomputable def S23 : Spec := pureS [tI] [.d tFrac] (fun x => true) (fun x => (lowest x.1 192, ()))
noncomputable def En23 : Env := En34.add 23 S23
noncomputable def I7 : FnI := ⟨En23, ⟨[(0, [0, 2, 5, 15, 16, 17], [])], []⟩, Try.f7, codeOf Try.f7, [.data tFrac, .data tI], 0⟩
noncomputable def S7 : Spec := pureS [(.slice tBar)] [.d tFrac, .d tI] (fun x => true) (fun x => ((pLong x.1).1, (pLong x.1).2, ()))
noncomputable def En7 : Env := En23.add 7 S7
noncomputable def I8 : FnI := ⟨En7, ⟨[(0, [5, 6, 14, 15, 16], [(5, tFrac)])], []⟩, Try.f8, codeOf Try.f8, [.own tFrac, .data tI], 0⟩
noncomputable def S8 : Spec := pureS [(.slice tBar)] [.o tFrac, .d tI] (fun x => true) (fun x => ((pBegins x.1).1, (pBegins x.1).2, ()))
noncomputable def En8 : Env := En7.add 8 S8
noncomputable def I10 : FnI := ⟨En8, ⟨[(0, [0, 3, 4], [(3, tI)]), (2, [0, 3, 4, 5], []), (4, [0, 3, 4, 5, 6], [(3, tI)]), (6, [0, 3, 4, 5, 6, 7], [(3, tI)])], []⟩, Try.f10, codeOf Try.f10, [.own tI], 0⟩
noncomputable def S10 : Spec := pureS [(.slice tBar)] [.o tI] (fun x => refOk x.1) (fun x => (orderOf x.1, ()))
noncomputable def En10 : Env := En8.add 10 S10
noncomputable def I24 : FnI := ⟨En10, ⟨[], []⟩, Try.f24, codeOf Try.f24, [.data .bool], 0⟩
noncomputable def S24 : Spec := pureS [tI, tI, tI] [.d .bool] (fun x => true) (fun x => (inR x.1 x.2.1 x.2.2.1, ()))
noncomputable def En24 : Env := En10.add 24 S24
noncomputable def I9 : FnI := ⟨En24, ⟨[(1, [0, 3, 4, 5, 6, 17, 18, 19], [])], []⟩, Try.f9, codeOf Try.f9, [.data tI], 0⟩
noncomputable def S9 : Spec := pureS [(.slice tBar)] [.d tI] (fun x => true) (fun x => (barsFault x.1, ()))
noncomputable def En9 : Env := En24.add 9 S9
noncomputable def I26 : FnI := ⟨En9, ⟨[], []⟩, Try.f26, codeOf Try.f26, [.data tI], 0⟩
noncomputable def S26 : Spec := pureS [tBar] [.d tI] (fun x => x.1.2.1 != 0) (fun x => (barUnits x.1, ()))
noncomputable def En26 : Env := En9.add 26 S26
noncomputable def I36 : FnI := ⟨En26, ⟨[(0, [0, 1], [])], []⟩, Try.f36, codeOf Try.f36, [.data tI], 0⟩
noncomputable def S36 : Spec := pureS [tI, tI] [.d tI] (fun x => true) (fun x => (divisor x.1 x.2.1, ()))
noncomputable def En36 : Env := En26.add 36 S36
noncomputable def I27 : FnI := ⟨En36, ⟨[], []⟩, Try.f27, codeOf Try.f27, [.data tFrac], 0⟩
noncomputable def S27 : Spec := pureS [tI, tI] [.d tFrac] (fun x => x.2.1 == 192) (fun x => (lowestR x.1 x.2.1, ()))
noncomputable def En27 : Env := En36.add 27 S27
noncomputable def I11 : FnI := ⟨En27, ⟨[(0, [0, 2, 3, 7, 8, 9], [])], []⟩, Try.f11, codeOf Try.f11, [.data tFrac], 0⟩
noncomputable def S11 : Spec := pureS [(.slice tBar)] [.d tFrac] (fun x => barsFault x.1 == 0) (fun x => (longOf x.1, ()))
noncomputable def En11 : Env := En27.add 11 S11
noncomputable def I12 : FnI := ⟨En11, ⟨[(0, [3, 4, 7, 8, 9], [(3, tFrac)])], []⟩, Try.f12, codeOf Try.f12, [.own tFrac], 0⟩
noncomputable def S12 : Spec := pureS [(.slice tBar)] [.o tFrac] (fun x => barsFault x.1 == 0) (fun x => (beginsOf x.1, ()))
noncomputable def En12 : Env := En11.add 12 S12
noncomputable def I14 : FnI := ⟨En12, ⟨[(0, [0, 1, 12, 13], [])], []⟩, Try.f14, codeOf Try.f14, [.data .bool], 0⟩
noncomputable def S14 : Spec := pureS [(.slice tI), (.slice tI)] [.d .bool] (fun x => decide (List.length x.1 ≤ 1000000)) (fun x => (equalI x.1 x.2.1, ()))
noncomputable def En14 : Env := En12.add 14 S14
noncomputable def I15 : FnI := ⟨En14, ⟨[(0, [0, 1, 12, 13], [])], []⟩, Try.f15, codeOf Try.f15, [.data .bool], 0⟩
noncomputable def S15 : Spec := pureS [(.slice tFrac), (.slice tFrac)] [.d .bool] (fun x => decide (List.length x.1 ≤ 1000000)) (fun x => (equalF x.1 x.2.1, ()))
noncomputable def En15 : Env := En14.add 15 S15
noncomputable def I16 : FnI := ⟨En15, ⟨[], []⟩, Try.f16, codeOf Try.f16, [.data .bool], 0⟩
noncomputable def S16 : Spec := pureS [] [.d .bool] (fun x => true) (fun x => (true, ()))
noncomputable def En16 : Env := En15.add 16 S16
noncomputable def I3 : FnI := ⟨En16, ⟨[(0, [4], [(4, tBar)])], []⟩, Try.f3, codeOf Try.f3, [.data .bool], 0⟩
noncomputable def S3 : Spec := pureS [(.slice tI)] [.d .bool] (fun x => true) (fun x => (true, ()))
end Go.Ev.B

set_option linter.unusedVariables false
set_option linter.unusedSimpArgs false
namespace Go.Ev.B
open Go Go.Ev Go.Proofs
theorem f33_run (a0 : Int) (a1 : Int) : I33.run ⟨[.dat tI a0, .dat tI a1], []⟩ = (cond (decide (a1 < (1 : Int))) (some ⟨[.dat tI (0 : Int)], []⟩) (cond (a1 == 0) none (cond (decide ((Int.tmod a0 a1) < (0 : Int))) (some ⟨[.dat tI (wrap .i64 ((Int.tmod a0 a1) + a1))], []⟩) (some ⟨[.dat tI (Int.tmod a0 a1)], []⟩)))) := (I33.run_eq _).trans (by kernel_rfl)
theorem f18_run (L : (List Int)) (at_ : Int) (a0 : Int) : I18.run ⟨[.ptr 0 0, .dat tI a0], [(0, .box [.dat (.slice tI) L, .dat tI at_])]⟩ = (cond (((List.length L : Nat) : Int) == (0 : Int)) (some ⟨[.dat tI (below (wrap .i64 ((wrap .i64 (at_ + (1 : Int))) * (7919 : Int))) a0)], [(0, .box [.dat (.slice tI) L, .dat tI (wrap .i64 (at_ + (1 : Int)))])]⟩) (cond (((List.length L : Nat) : Int) == 0) none (cond (((List.length L : Nat) : Int) == 0) none (cond (decide ((0 : Int) ≤ (Int.tmod (wrap .i64 ((wrap .i64 (at_ + (1 : Int))) - (1 : Int))) ((List.length L : Nat) : Int)))) (cond (decide ((Int.tmod (wrap .i64 ((wrap .i64 (at_ + (1 : Int))) - (1 : Int))) ((List.length L : Nat) : Int)) < ((List.length L : Nat) : Int))) (some ⟨[.dat tI (below (wrap .i64 ((below (List.getD L (Int.toNat (Int.tmod (wrap .i64 ((wrap .i64 (at_ + (1 : Int))) - (1 : Int))) ((List.length L : Nat) : Int))) (Tc.dflt tI)) (1073741824 : Int)) + (wrap .i64 ((wrap .i64 (Int.tdiv (wrap .i64 ((wrap .i64 (at_ + (1 : Int))) - (1 : Int))) ((List.length L : Nat) : Int))) * (wrap .i64 ((7919 : Int) + (Int.tmod (wrap .i64 ((wrap .i64 (at_ + (1 : Int))) - (1 : Int))) ((List.length L : Nat) : Int)))))))) a0)], [(0, .box [.dat (.slice tI) L, .dat tI (wrap .i64 (at_ + (1 : Int)))])]⟩) none) none)))) := (I18.run_eq _).trans (by kernel_rfl)
theorem f5_run (L : (List Int)) (at_ : Int) (a0 : Int) : I5.run ⟨[.ptr 0 0, .dat tI a0], [(0, .box [.dat (.slice tI) L, .dat tI at_])]⟩ = (cond (atOk 1 at_) (some ⟨[.dat .bool ((next L at_ a0) == (0 : Int))], [(0, .box [.dat (.slice tI) L, .dat tI (nextAt at_)])]⟩) none) := (I5.run_eq _).trans (by kernel_rfl)
theorem f20_run (L : (List Int)) (at_ : Int) (a0 : (List Int)) : I20.run ⟨[.ptr 0 0, .dat (.slice tI) a0], [(0, .box [.dat (.slice tI) L, .dat tI at_])]⟩ = (cond (atOk 1 at_) (cond (decide ((0 : Int) ≤ (next L at_ ((List.length a0 : Nat) : Int)))) (cond (decide ((next L at_ ((List.length a0 : Nat) : Int)) < ((List.length a0 : Nat) : Int))) (some ⟨[.dat tI (List.getD a0 (Int.toNat (next L at_ ((List.length a0 : Nat) : Int))) (Tc.dflt tI))], [(0, .box [.dat (.slice tI) L, .dat tI (nextAt at_)])]⟩) none) none) none) := (I20.run_eq _).trans (by kernel_rfl)
theorem f31_run (L : (List Int)) (at_ : Int) : I31.run ⟨[.ptr 0 0], [(0, .box [.ptr 1 0]), (1, .box [.dat (.slice tI) L, .dat tI at_])]⟩ = (cond (atOk 1 at_ && decide (0 < List.length [(1 : Int), (2 : Int), (3 : Int), (4 : Int)]) && decide (List.length [(1 : Int), (2 : Int), (3 : Int), (4 : Int)] ≤ 1000)) (cond (atOk 1 (nextAt at_) && decide (0 < List.length [(4 : Int), (4 : Int), (2 : Int), (8 : Int)]) && decide (List.length [(4 : Int), (4 : Int), (2 : Int), (8 : Int)] ≤ 1000)) (some ⟨[.dat tBar ((pick L at_ [(1 : Int), (2 : Int), (3 : Int), (4 : Int)]), ((pick L (nextAt at_) [(4 : Int), (4 : Int), (2 : Int), (8 : Int)]), ((0 : Int), ((0 : Int), false))))], [(0, .box [.ptr 1 0]), (1, .box [.dat (.slice tI) L, .dat tI (nextAt (nextAt at_))])]⟩) none) none) := (I31.run_eq _).trans (by kernel_rfl)
theorem f32_run (L : (List Int)) (at_ : Int) (a0 : Int) (a1 : Int) : I32.run ⟨[.ptr 0 0, .dat tI a0, .dat tI a1], [(0, .box [.dat (.slice tI) L, .dat tI at_])]⟩ = (cond (decide (a1 < a0)) (some ⟨[.dat tI a0], [(0, .box [.dat (.slice tI) L, .dat tI at_])]⟩) (cond (atOk 1 at_) (some ⟨[.dat tI (wrap .i64 (a0 + (next L at_ (wrap .i64 ((wrap .i64 (a1 - a0)) + (1 : Int))))))], [(0, .box [.dat (.slice tI) L, .dat tI (nextAt at_)])]⟩) none)) := (I32.run_eq _).trans (by kernel_rfl)
noncomputable def f17h0 (x0 : Int) (x1 : Int) (x2 : (List Int)) (x3 : Int) (x4 : (List Bar)) : Option Fr := I17.hd 0 (mkF 61 [(1, .ptr 501 0), (3, .slc 502), (4, .clos 31 [.ptr 501 0]), (12, .dat tI x0), (13, .dat tI x1)] [(0, .box [.dat (.slice tI) x2, .dat tI x3]), (501, .box [.ptr 0 0]), (502, .arr tBar x4)])
noncomputable def f17h2 (x0 : Int) (x1 : Int) (x2 : Int) (x3 : Int) (x4 : Int) (x5 : Int) (x6 : Int) (x7 : (List Int)) (x8 : Int) (x9 : (List Bar)) : Option Fr := I17.hd 2 (mkF 61 [(1, .ptr 501 0), (3, .slc 502), (4, .clos 31 [.ptr 501 0]), (5, .dat tI x0), (6, .dat tI x1), (7, .dat tI x2), (12, .dat tI x3), (13, .dat tI x4), (27, .dat tI x5), (28, .dat tI x6)] [(0, .box [.dat (.slice tI) x7, .dat tI x8]), (501, .box [.ptr 0 0]), (502, .arr tBar x9)])
theorem f17_run (L : (List Int)) (at_ : Int) : I17.run ⟨[.ptr 0 0], [(0, .box [.dat (.slice tI) L, .dat tI at_])]⟩ = (cond (atOk 1 at_) (f17h0 (rangeS L at_ (1 : Int) (4 : Int)) (0 : Int) L (rangeAt at_ (1 : Int) (4 : Int)) []) none) := (I17.run_eq _).trans (by kernel_rfl)
theorem f17h0_eq (x0 : Int) (x1 : Int) (x2 : (List Int)) (x3 : Int) (x4 : (List Bar)) : f17h0 x0 x1 x2 x3 x4 = (cond (decide (x1 < x0)) (cond (atOk 1 x3) (cond (!(next x2 x3 (2 : Int) == 0)) (cond (atOk 8 (nextAt x3)) (cond (decide ((List.length x4 + List.length [(rbar x2 (nextAt x3))]) * 40 ≤ 140737488355328)) (f17h0 x0 (wrap .i64 (x1 + (1 : Int))) x2 (nextAt (nextAt (nextAt x3))) (x4 ++ [(rbar x2 (nextAt x3))])) none) none) (cond (atOk 1 (nextAt x3)) (cond (atOk 1 (rangeAt (nextAt x3) (1 : Int) (3 : Int))) (f17h2 (rangeS x2 (nextAt x3) (1 : Int) (3 : Int)) (rangeS x2 (rangeAt (nextAt x3) (1 : Int) (3 : Int)) (2 : Int) (3 : Int)) (0 : Int) x0 x1 (rangeS x2 (nextAt x3) (1 : Int) (3 : Int)) (0 : Int) x2 (rangeAt (rangeAt (nextAt x3) (1 : Int) (3 : Int)) (2 : Int) (3 : Int)) x4) none) none)) none) (some ⟨[.slc 2], [(0, .box [.dat (.slice tI) x2, .dat tI x3]), (2, .arr tBar x4)]⟩)) := hdEq (by kernel_rfl)
theorem f17h2_eq (x0 : Int) (x1 : Int) (x2 : Int) (x3 : Int) (x4 : Int) (x5 : Int) (x6 : Int) (x7 : (List Int)) (x8 : Int) (x9 : (List Bar)) : f17h2 x0 x1 x2 x3 x4 x5 x6 x7 x8 x9 = (cond (decide (x6 < x5)) (cond (atOk 8 x8) (cond (decide (x6 > (0 : Int))) (cond (atOk 1 (nextAt (nextAt x8))) (cond (next x7 (nextAt (nextAt x8)) (2 : Int) == 0) (cond (x6 == (wrap .i64 (x0 - (1 : Int)))) (cond (decide ((List.length x9 + List.length [((rbar x7 x8).1, ((rbar x7 x8).2.1, (x1, ((if (wrap .i64 (x2 + (1 : Int))) < x1 then (wrap .i64 (x2 + (1 : Int))) else x1), (x6 == (0 : Int))))))]) * 40 ≤ 140737488355328)) (f17h2 x0 x1 (if (wrap .i64 (x2 + (1 : Int))) < x1 then (wrap .i64 (x2 + (1 : Int))) else x1) x3 x4 x5 (wrap .i64 (x6 + (1 : Int))) x7 (nextAt (nextAt (nextAt x8))) (x9 ++ [((rbar x7 x8).1, ((rbar x7 x8).2.1, (x1, ((if (wrap .i64 (x2 + (1 : Int))) < x1 then (wrap .i64 (x2 + (1 : Int))) else x1), (x6 == (0 : Int))))))])) none) (cond (decide ((List.length x9 + List.length [((rbar x7 x8).1, ((rbar x7 x8).2.1, ((rbar x7 x8).2.2.1, ((if (wrap .i64 (x2 + (1 : Int))) < x1 then (wrap .i64 (x2 + (1 : Int))) else x1), (x6 == (0 : Int))))))]) * 40 ≤ 140737488355328)) (f17h2 x0 x1 (if (wrap .i64 (x2 + (1 : Int))) < x1 then (wrap .i64 (x2 + (1 : Int))) else x1) x3 x4 x5 (wrap .i64 (x6 + (1 : Int))) x7 (nextAt (nextAt (nextAt x8))) (x9 ++ [((rbar x7 x8).1, ((rbar x7 x8).2.1, ((rbar x7 x8).2.2.1, ((if (wrap .i64 (x2 + (1 : Int))) < x1 then (wrap .i64 (x2 + (1 : Int))) else x1), (x6 == (0 : Int))))))])) none)) (cond (x6 == (wrap .i64 (x0 - (1 : Int)))) (cond (decide ((List.length x9 + List.length [((rbar x7 x8).1, ((rbar x7 x8).2.1, (x1, (x2, (x6 == (0 : Int))))))]) * 40 ≤ 140737488355328)) (f17h2 x0 x1 x2 x3 x4 x5 (wrap .i64 (x6 + (1 : Int))) x7 (nextAt (nextAt (nextAt x8))) (x9 ++ [((rbar x7 x8).1, ((rbar x7 x8).2.1, (x1, (x2, (x6 == (0 : Int))))))])) none) (cond (decide ((List.length x9 + List.length [((rbar x7 x8).1, ((rbar x7 x8).2.1, ((rbar x7 x8).2.2.1, (x2, (x6 == (0 : Int))))))]) * 40 ≤ 140737488355328)) (f17h2 x0 x1 x2 x3 x4 x5 (wrap .i64 (x6 + (1 : Int))) x7 (nextAt (nextAt (nextAt x8))) (x9 ++ [((rbar x7 x8).1, ((rbar x7 x8).2.1, ((rbar x7 x8).2.2.1, (x2, (x6 == (0 : Int))))))])) none))) none) (cond (x6 == (wrap .i64 (x0 - (1 : Int)))) (cond (decide ((List.length x9 + List.length [((rbar x7 x8).1, ((rbar x7 x8).2.1, (x1, (x2, (x6 == (0 : Int))))))]) * 40 ≤ 140737488355328)) (f17h2 x0 x1 x2 x3 x4 x5 (wrap .i64 (x6 + (1 : Int))) x7 (nextAt (nextAt x8)) (x9 ++ [((rbar x7 x8).1, ((rbar x7 x8).2.1, (x1, (x2, (x6 == (0 : Int))))))])) none) (cond (decide ((List.length x9 + List.length [((rbar x7 x8).1, ((rbar x7 x8).2.1, ((rbar x7 x8).2.2.1, (x2, (x6 == (0 : Int))))))]) * 40 ≤ 140737488355328)) (f17h2 x0 x1 x2 x3 x4 x5 (wrap .i64 (x6 + (1 : Int))) x7 (nextAt (nextAt x8)) (x9 ++ [((rbar x7 x8).1, ((rbar x7 x8).2.1, ((rbar x7 x8).2.2.1, (x2, (x6 == (0 : Int))))))])) none))) none) (f17h0 x3 (wrap .i64 (x4 + (1 : Int))) x7 x8 x9)) := hdEq (by kernel_rfl)
theorem f19_run (L : (List Int)) (at_ : Int) (a0 : Int) (a1 : Int) : I19.run ⟨[.ptr 0 0, .dat tI a0, .dat tI a1], [(0, .box [.dat (.slice tI) L, .dat tI at_])]⟩ = (cond (atOk 1 at_) (cond (next L at_ (12 : Int) == 0) (cond (atOk 1 (nextAt at_) && decide (0 < List.length [(wrap .i64 (a0 - (1 : Int))), (wrap .i64 (a1 + (1 : Int))), a0, a1, (-1099511627776 : Int), (1099511627776 : Int)]) && decide (List.length [(wrap .i64 (a0 - (1 : Int))), (wrap .i64 (a1 + (1 : Int))), a0, a1, (-1099511627776 : Int), (1099511627776 : Int)] ≤ 1000)) (some ⟨[.dat tI (pick L (nextAt at_) [(wrap .i64 (a0 - (1 : Int))), (wrap .i64 (a1 + (1 : Int))), a0, a1, (-1099511627776 : Int), (1099511627776 : Int)])], [(0, .box [.dat (.slice tI) L, .dat tI (nextAt (nextAt at_))])]⟩) none) (cond (atOk 1 (nextAt at_)) (some ⟨[.dat tI (rangeS L (nextAt at_) a0 a1)], [(0, .box [.dat (.slice tI) L, .dat tI (rangeAt (nextAt at_) a0 a1)])]⟩) none)) none) := (I19.run_eq _).trans (by kernel_rfl)
theorem f4_run (L : (List Int)) (at_ : Int) : I4.run ⟨[.ptr 0 0], [(0, .box [.dat (.slice tI) L, .dat tI at_])]⟩ = (cond (atOk 1000 at_) (cond (atOk 1 ((rightBars L at_).1)) (cond (next L ((rightBars L at_).1) (10 : Int) == 0) (cond (atOk 1 (nextAt ((rightBars L at_).1))) (cond (decide ((0 : Int) ≤ (next L (nextAt ((rightBars L at_).1)) ((List.length ((rightBars L at_).2) : Nat) : Int)))) (cond (decide ((next L (nextAt ((rightBars L at_).1)) ((List.length ((rightBars L at_).2) : Nat) : Int)) < ((List.length ((rightBars L at_).2) : Nat) : Int))) (cond (atOk 1 (nextAt (nextAt ((rightBars L at_).1)))) (cond ((next L (nextAt (nextAt ((rightBars L at_).1))) (4 : Int)) == (0 : Int)) (cond (atOk 8 (nextAt (nextAt (nextAt ((rightBars L at_).1))))) (cond (atOk 1 ((oddS L (nextAt (nextAt (nextAt ((rightBars L at_).1)))) (1 : Int) (16 : Int)).1) && decide (0 < List.length [(4 : Int), (3 : Int), (0 : Int), (32 : Int)]) && decide (List.length [(4 : Int), (3 : Int), (0 : Int), (32 : Int)] ≤ 1000)) (cond (decide ((Int.toNat (next L (nextAt ((rightBars L at_).1)) ((List.length ((rightBars L at_).2) : Nat) : Int))) < List.length ((rightBars L at_).2))) (cond (decide ((Int.toNat (next L (nextAt ((rightBars L at_).1)) ((List.length ((rightBars L at_).2) : Nat) : Int))) < List.length ((rightBars L at_).2))) (cond (decide ((Int.toNat (next L (nextAt ((rightBars L at_).1)) ((List.length ((rightBars L at_).2) : Nat) : Int))) < List.length ((rightBars L at_).2))) (cond (decide ((Int.toNat (next L (nextAt ((rightBars L at_).1)) ((List.length ((rightBars L at_).2) : Nat) : Int))) < List.length (List.set ((rightBars L at_).2) (Int.toNat (next L (nextAt ((rightBars L at_).1)) ((List.length ((rightBars L at_).2) : Nat) : Int))) (((oddS L (nextAt (nextAt (nextAt ((rightBars L at_).1)))) (1 : Int) (16 : Int)).2), (List.getD ((rightBars L at_).2) (Int.toNat (next L (nextAt ((rightBars L at_).1)) ((List.length ((rightBars L at_).2) : Nat) : Int))) (Tc.dflt tBar)).2)))) (cond (decide ((Int.toNat (next L (nextAt ((rightBars L at_).1)) ((List.length ((rightBars L at_).2) : Nat) : Int))) < List.length (List.set ((rightBars L at_).2) (Int.toNat (next L (nextAt ((rightBars L at_).1)) ((List.length ((rightBars L at_).2) : Nat) : Int))) (((oddS L (nextAt (nextAt (nextAt ((rightBars L at_).1)))) (1 : Int) (16 : Int)).2), (List.getD ((rightBars L at_).2) (Int.toNat (next L (nextAt ((rightBars L at_).1)) ((List.length ((rightBars L at_).2) : Nat) : Int))) (Tc.dflt tBar)).2)))) (cond (decide ((Int.toNat (next L (nextAt ((rightBars L at_).1)) ((List.length ((rightBars L at_).2) : Nat) : Int))) < List.length (List.set ((rightBars L at_).2) (Int.toNat (next L (nextAt ((rightBars L at_).1)) ((List.length ((rightBars L at_).2) : Nat) : Int))) (((oddS L (nextAt (nextAt (nextAt ((rightBars L at_).1)))) (1 : Int) (16 : Int)).2), (List.getD ((rightBars L at_).2) (Int.toNat (next L (nextAt ((rightBars L at_).1)) ((List.length ((rightBars L at_).2) : Nat) : Int))) (Tc.dflt tBar)).2)))) (cond (atOk 1 (nextAt ((oddS L (nextAt (nextAt (nextAt ((rightBars L at_).1)))) (1 : Int) (16 : Int)).1))) (cond (next L (nextAt ((oddS L (nextAt (nextAt (nextAt ((rightBars L at_).1)))) (1 : Int) (16 : Int)).1)) (60 : Int) == 0) (some ⟨[.slc 2], [(0, .box [.dat (.slice tI) L, .dat tI (nextAt (nextAt ((oddS L (nextAt (nextAt (nextAt ((rightBars L at_).1)))) (1 : Int) (16 : Int)).1)))]), (2, .arr tBar [])]⟩) (some ⟨[.slc 2], [(0, .box [.dat (.slice tI) L, .dat tI (nextAt (nextAt ((oddS L (nextAt (nextAt (nextAt ((rightBars L at_).1)))) (1 : Int) (16 : Int)).1)))]), (2, .arr tBar (List.set (List.set ((rightBars L at_).2) (Int.toNat (next L (nextAt ((rightBars L at_).1)) ((List.length ((rightBars L at_).2) : Nat) : Int))) (((oddS L (nextAt (nextAt (nextAt ((rightBars L at_).1)))) (1 : Int) (16 : Int)).2), (List.getD ((rightBars L at_).2) (Int.toNat (next L (nextAt ((rightBars L at_).1)) ((List.length ((rightBars L at_).2) : Nat) : Int))) (Tc.dflt tBar)).2)) (Int.toNat (next L (nextAt ((rightBars L at_).1)) ((List.length ((rightBars L at_).2) : Nat) : Int))) ((List.getD (List.set ((rightBars L at_).2) (Int.toNat (next L (nextAt ((rightBars L at_).1)) ((List.length ((rightBars L at_).2) : Nat) : Int))) (((oddS L (nextAt (nextAt (nextAt ((rightBars L at_).1)))) (1 : Int) (16 : Int)).2), (List.getD ((rightBars L at_).2) (Int.toNat (next L (nextAt ((rightBars L at_).1)) ((List.length ((rightBars L at_).2) : Nat) : Int))) (Tc.dflt tBar)).2)) (Int.toNat (next L (nextAt ((rightBars L at_).1)) ((List.length ((rightBars L at_).2) : Nat) : Int))) (Tc.dflt tBar)).1, ((pick L ((oddS L (nextAt (nextAt (nextAt ((rightBars L at_).1)))) (1 : Int) (16 : Int)).1) [(4 : Int), (3 : Int), (0 : Int), (32 : Int)]), (List.getD (List.set ((rightBars L at_).2) (Int.toNat (next L (nextAt ((rightBars L at_).1)) ((List.length ((rightBars L at_).2) : Nat) : Int))) (((oddS L (nextAt (nextAt (nextAt ((rightBars L at_).1)))) (1 : Int) (16 : Int)).2), (List.getD ((rightBars L at_).2) (Int.toNat (next L (nextAt ((rightBars L at_).1)) ((List.length ((rightBars L at_).2) : Nat) : Int))) (Tc.dflt tBar)).2)) (Int.toNat (next L (nextAt ((rightBars L at_).1)) ((List.length ((rightBars L at_).2) : Nat) : Int))) (Tc.dflt tBar)).2.2))))]⟩)) none) none) none) none) none) none) none) none) none) (cond ((next L (nextAt (nextAt ((rightBars L at_).1))) (4 : Int)) == (1 : Int)) (cond (decide ((Int.toNat (next L (nextAt ((rightBars L at_).1)) ((List.length ((rightBars L at_).2) : Nat) : Int))) < List.length ((rightBars L at_).2))) (cond (decide ((Int.toNat (next L (nextAt ((rightBars L at_).1)) ((List.length ((rightBars L at_).2) : Nat) : Int))) < List.length ((rightBars L at_).2))) (cond (decide ((Int.toNat (next L (nextAt ((rightBars L at_).1)) ((List.length ((rightBars L at_).2) : Nat) : Int))) < List.length ((rightBars L at_).2))) (cond (decide ((Int.toNat (next L (nextAt ((rightBars L at_).1)) ((List.length ((rightBars L at_).2) : Nat) : Int))) < List.length ((rightBars L at_).2))) (cond (decide ((Int.toNat (next L (nextAt ((rightBars L at_).1)) ((List.length ((rightBars L at_).2) : Nat) : Int))) < List.length ((rightBars L at_).2))) (cond (decide ((Int.toNat (next L (nextAt ((rightBars L at_).1)) ((List.length ((rightBars L at_).2) : Nat) : Int))) < List.length ((rightBars L at_).2))) (cond (atOk 1 (nextAt (nextAt (nextAt ((rightBars L at_).1))))) (cond (next L (nextAt (nextAt (nextAt ((rightBars L at_).1)))) (60 : Int) == 0) (some ⟨[.slc 2], [(0, .box [.dat (.slice tI) L, .dat tI (nextAt (nextAt (nextAt (nextAt ((rightBars L at_).1)))))]), (2, .arr tBar [])]⟩) (some ⟨[.slc 2], [(0, .box [.dat (.slice tI) L, .dat tI (nextAt (nextAt (nextAt (nextAt ((rightBars L at_).1)))))]), (2, .arr tBar (List.set ((rightBars L at_).2) (Int.toNat (next L (nextAt ((rightBars L at_).1)) ((List.length ((rightBars L at_).2) : Nat) : Int))) ((List.getD ((rightBars L at_).2) (Int.toNat (next L (nextAt ((rightBars L at_).1)) ((List.length ((rightBars L at_).2) : Nat) : Int))) (Tc.dflt tBar)).1, ((List.getD ((rightBars L at_).2) (Int.toNat (next L (nextAt ((rightBars L at_).1)) ((List.length ((rightBars L at_).2) : Nat) : Int))) (Tc.dflt tBar)).2.1, ((List.getD ((rightBars L at_).2) (Int.toNat (next L (nextAt ((rightBars L at_).1)) ((List.length ((rightBars L at_).2) : Nat) : Int))) (Tc.dflt tBar)).2.2.1, ((List.getD ((rightBars L at_).2) (Int.toNat (next L (nextAt ((rightBars L at_).1)) ((List.length ((rightBars L at_).2) : Nat) : Int))) (Tc.dflt tBar)).2.2.2.1, (!(List.getD ((rightBars L at_).2) (Int.toNat (next L (nextAt ((rightBars L at_).1)) ((List.length ((rightBars L at_).2) : Nat) : Int))) (Tc.dflt tBar)).2.2.2.2)))))))]⟩)) none) none) none) none) none) none) none) (cond ((next L (nextAt (nextAt ((rightBars L at_).1))) (4 : Int)) == (2 : Int)) (cond (atOk 1 (nextAt (nextAt (nextAt ((rightBars L at_).1)))) && decide (0 < List.length [(0 : Int), (1 : Int), (2 : Int), (9 : Int), (10 : Int)]) && decide (List.length [(0 : Int), (1 : Int), (2 : Int), (9 : Int), (10 : Int)] ≤ 1000)) (cond (decide ((Int.toNat (next L (nextAt ((rightBars L at_).1)) ((List.length ((rightBars L at_).2) : Nat) : Int))) < List.length ((rightBars L at_).2))) (cond (decide ((Int.toNat (next L (nextAt ((rightBars L at_).1)) ((List.length ((rightBars L at_).2) : Nat) : Int))) < List.length ((rightBars L at_).2))) (cond (decide ((Int.toNat (next L (nextAt ((rightBars L at_).1)) ((List.length ((rightBars L at_).2) : Nat) : Int))) < List.length ((rightBars L at_).2))) (cond (atOk 1 (nextAt (nextAt (nextAt (nextAt ((rightBars L at_).1)))))) (cond (next L (nextAt (nextAt (nextAt (nextAt ((rightBars L at_).1))))) (60 : Int) == 0) (some ⟨[.slc 2], [(0, .box [.dat (.slice tI) L, .dat tI (nextAt (nextAt (nextAt (nextAt (nextAt ((rightBars L at_).1))))))]), (2, .arr tBar [])]⟩) (some ⟨[.slc 2], [(0, .box [.dat (.slice tI) L, .dat tI (nextAt (nextAt (nextAt (nextAt (nextAt ((rightBars L at_).1))))))]), (2, .arr tBar (List.set ((rightBars L at_).2) (Int.toNat (next L (nextAt ((rightBars L at_).1)) ((List.length ((rightBars L at_).2) : Nat) : Int))) ((List.getD ((rightBars L at_).2) (Int.toNat (next L (nextAt ((rightBars L at_).1)) ((List.length ((rightBars L at_).2) : Nat) : Int))) (Tc.dflt tBar)).1, ((List.getD ((rightBars L at_).2) (Int.toNat (next L (nextAt ((rightBars L at_).1)) ((List.length ((rightBars L at_).2) : Nat) : Int))) (Tc.dflt tBar)).2.1, ((pick L (nextAt (nextAt (nextAt ((rightBars L at_).1)))) [(0 : Int), (1 : Int), (2 : Int), (9 : Int), (10 : Int)]), (List.getD ((rightBars L at_).2) (Int.toNat (next L (nextAt ((rightBars L at_).1)) ((List.length ((rightBars L at_).2) : Nat) : Int))) (Tc.dflt tBar)).2.2.2)))))]⟩)) none) none) none) none) none) (cond (atOk 1 (nextAt (nextAt (nextAt ((rightBars L at_).1)))) && decide (0 < List.length [(0 : Int), (1 : Int), (5 : Int), (9 : Int), (-1 : Int)]) && decide (List.length [(0 : Int), (1 : Int), (5 : Int), (9 : Int), (-1 : Int)] ≤ 1000)) (cond (decide ((Int.toNat (next L (nextAt ((rightBars L at_).1)) ((List.length ((rightBars L at_).2) : Nat) : Int))) < List.length ((rightBars L at_).2))) (cond (decide ((Int.toNat (next L (nextAt ((rightBars L at_).1)) ((List.length ((rightBars L at_).2) : Nat) : Int))) < List.length ((rightBars L at_).2))) (cond (decide ((Int.toNat (next L (nextAt ((rightBars L at_).1)) ((List.length ((rightBars L at_).2) : Nat) : Int))) < List.length ((rightBars L at_).2))) (cond (atOk 1 (nextAt (nextAt (nextAt (nextAt ((rightBars L at_).1)))))) (cond (next L (nextAt (nextAt (nextAt (nextAt ((rightBars L at_).1))))) (60 : Int) == 0) (some ⟨[.slc 2], [(0, .box [.dat (.slice tI) L, .dat tI (nextAt (nextAt (nextAt (nextAt (nextAt ((rightBars L at_).1))))))]), (2, .arr tBar [])]⟩) (some ⟨[.slc 2], [(0, .box [.dat (.slice tI) L, .dat tI (nextAt (nextAt (nextAt (nextAt (nextAt ((rightBars L at_).1))))))]), (2, .arr tBar (List.set ((rightBars L at_).2) (Int.toNat (next L (nextAt ((rightBars L at_).1)) ((List.length ((rightBars L at_).2) : Nat) : Int))) ((List.getD ((rightBars L at_).2) (Int.toNat (next L (nextAt ((rightBars L at_).1)) ((List.length ((rightBars L at_).2) : Nat) : Int))) (Tc.dflt tBar)).1, ((List.getD ((rightBars L at_).2) (Int.toNat (next L (nextAt ((rightBars L at_).1)) ((List.length ((rightBars L at_).2) : Nat) : Int))) (Tc.dflt tBar)).2.1, ((List.getD ((rightBars L at_).2) (Int.toNat (next L (nextAt ((rightBars L at_).1)) ((List.length ((rightBars L at_).2) : Nat) : Int))) (Tc.dflt tBar)).2.2.1, ((pick L (nextAt (nextAt (nextAt ((rightBars L at_).1)))) [(0 : Int), (1 : Int), (5 : Int), (9 : Int), (-1 : Int)]), (List.getD ((rightBars L at_).2) (Int.toNat (next L (nextAt ((rightBars L at_).1)) ((List.length ((rightBars L at_).2) : Nat) : Int))) (Tc.dflt tBar)).2.2.2.2))))))]⟩)) none) none) none) none) none)))) none) none) none) none) (cond (atOk 1 (nextAt ((rightBars L at_).1))) (cond (next L (nextAt ((rightBars L at_).1)) (60 : Int) == 0) (some ⟨[.slc 2], [(0, .box [.dat (.slice tI) L, .dat tI (nextAt (nextAt ((rightBars L at_).1)))]), (2, .arr tBar [])]⟩) (some ⟨[.slc 2], [(0, .box [.dat (.slice tI) L, .dat tI (nextAt (nextAt ((rightBars L at_).1)))]), (2, .arr tBar ((rightBars L at_).2))]⟩)) none)) none) none) := (I4.run_eq _).trans (by kernel_rfl)
theorem f38_run (a0 : Int) (a1 : Int) (a2 : Int) : I38.run ⟨[.dat tI a0, .dat tI a1, .dat tI a2], []⟩ = (cond (decide (a0 < a1)) (some ⟨[.dat .bool true], []⟩) (some ⟨[.dat .bool (decide (a0 > a2))], []⟩)) := (I38.run_eq _).trans (by kernel_rfl)
noncomputable def f35h0 (x0 : (List Int)) (x1 : Int) (x2 : Int) (x3 : Int) : Option Fr := I35.hd 0 (mkF 19 [(0, .dat (.slice tI) x0), (1, .dat tI x1), (7, .dat tI x2), (8, .dat tI x3)] [])
theorem f35_run (a0 : (List Int)) (a1 : Int) : I35.run ⟨[.dat (.slice tI) a0, .dat tI a1], []⟩ = (f35h0 a0 a1 ((List.length a0 : Nat) : Int) (0 : Int)) := (I35.run_eq _).trans (by kernel_rfl)
theorem f35h0_eq (x0 : (List Int)) (x1 : Int) (x2 : Int) (x3 : Int) : f35h0 x0 x1 x2 x3 = (cond (decide (x3 < x2)) (cond (decide ((0 : Int) ≤ x3)) (cond (decide (x3 < ((List.length x0 : Nat) : Int))) (cond (x1 == (List.getD x0 (Int.toNat x3) (Tc.dflt tI))) (some ⟨[.dat tI x3], []⟩) (f35h0 x0 x1 x2 (wrap .i64 (x3 + (1 : Int))))) none) none) (some ⟨[.dat tI (-1 : Int)], []⟩)) := hdEq (by kernel_rfl)
theorem f25_run (a0 : (List Int)) (a1 : Int) : I25.run ⟨[.dat (.slice tI) a0, .dat tI a1], []⟩ = (cond (decide (List.length a0 ≤ 1000000)) (some ⟨[.dat .bool (decide ((indexI a0 a1) ≥ (0 : Int)))], []⟩) none) := (I25.run_eq _).trans (by kernel_rfl)
theorem f39_run (a0 : Int) : I39.run ⟨[.dat tI a0], []⟩ = (cond (decide (List.length [(1 : Int), (2 : Int), (4 : Int), (8 : Int), (16 : Int)] ≤ 1000000)) (some ⟨[.dat .bool (containsI [(1 : Int), (2 : Int), (4 : Int), (8 : Int), (16 : Int)] a0)], []⟩) none) := (I39.run_eq _).trans (by kernel_rfl)
theorem f37_run (a0 : Bar) : I37.run ⟨[.dat tBar a0], []⟩ = (cond (outside a0.1 (1 : Int) (16 : Int)) (some ⟨[.dat tI (1 : Int)], []⟩) (cond (!(isUnit a0.2.1)) (some ⟨[.dat tI (1 : Int)], []⟩) (cond (a0.2.2.1 != (0 : Int)) (cond (outside a0.2.2.1 (2 : Int) (9 : Int)) (some ⟨[.dat tI (1 : Int)], []⟩) (cond (outside a0.2.2.2.1 (0 : Int) (9 : Int)) (some ⟨[.dat tI (1 : Int)], []⟩) (some ⟨[.dat tI (0 : Int)], []⟩))) (cond (outside a0.2.2.2.1 (0 : Int) (9 : Int)) (some ⟨[.dat tI (1 : Int)], []⟩) (some ⟨[.dat tI (0 : Int)], []⟩))))) := (I37.run_eq _).trans (by kernel_rfl)
noncomputable def f28h0 (x0 : (List Bar)) (x1 : Bool) (x2 : (List Bar)) (x3 : Int) (x4 : Int) : Option Fr := I28.hd 0 (mkF 67 [(0, .dat (.slice tBar) x0), (3, .dat .bool x1), (7, .dat (.slice tBar) x2), (8, .dat tI x3), (9, .dat tI x4)] [])
theorem f28_run (a0 : (List Bar)) : I28.run ⟨[.dat (.slice tBar) a0], []⟩ = (f28h0 a0 false a0 ((List.length a0 : Nat) : Int) (0 : Int)) := (I28.run_eq _).trans (by kernel_rfl)
theorem f28h0_eq (x0 : (List Bar)) (x1 : Bool) (x2 : (List Bar)) (x3 : Int) (x4 : Int) : f28h0 x0 x1 x2 x3 x4 = (cond (decide (x4 < x3)) (cond (decide ((0 : Int) ≤ x4)) (cond (decide (x4 < ((List.length x2 : Nat) : Int))) (cond ((barFault ((List.getD x2 (Int.toNat x4) (Tc.dflt tBar)).1, ((List.getD x2 (Int.toNat x4) (Tc.dflt tBar)).2.1, ((List.getD x2 (Int.toNat x4) (Tc.dflt tBar)).2.2.1, ((List.getD x2 (Int.toNat x4) (Tc.dflt tBar)).2.2.2.1, (List.getD x2 (Int.toNat x4) (Tc.dflt tBar)).2.2.2.2))))) != (0 : Int)) (some ⟨[.dat tI (barFault ((List.getD x2 (Int.toNat x4) (Tc.dflt tBar)).1, ((List.getD x2 (Int.toNat x4) (Tc.dflt tBar)).2.1, ((List.getD x2 (Int.toNat x4) (Tc.dflt tBar)).2.2.1, ((List.getD x2 (Int.toNat x4) (Tc.dflt tBar)).2.2.2.1, (List.getD x2 (Int.toNat x4) (Tc.dflt tBar)).2.2.2.2)))))], []⟩) (cond (List.getD x2 (Int.toNat x4) (Tc.dflt tBar)).2.2.2.2 (cond x1 (some ⟨[.dat tI (16 : Int)], []⟩) (cond (!(List.getD x2 (Int.toNat x4) (Tc.dflt tBar)).2.2.2.2) (cond (!x1) (cond ((List.getD x2 (Int.toNat x4) (Tc.dflt tBar)).2.2.1 != (0 : Int)) (some ⟨[.dat tI (16 : Int)], []⟩) (cond ((List.getD x2 (Int.toNat x4) (Tc.dflt tBar)).2.2.2.1 != (0 : Int)) (some ⟨[.dat tI (16 : Int)], []⟩) (cond x1 (cond (decide ((0 : Int) ≤ (wrap .i64 (x4 - (1 : Int))))) (cond (decide ((wrap .i64 (x4 - (1 : Int))) < ((List.length x0 : Nat) : Int))) (cond (decide ((List.getD x2 (Int.toNat x4) (Tc.dflt tBar)).2.2.2.1 < (List.getD x0 (Int.toNat (wrap .i64 (x4 - (1 : Int)))) (Tc.dflt tBar)).2.2.2.1)) (some ⟨[.dat tI (16 : Int)], []⟩) (cond x1 (f28h0 x0 ((List.getD x2 (Int.toNat x4) (Tc.dflt tBar)).2.2.1 == (0 : Int)) x2 x3 (wrap .i64 (x4 + (1 : Int)))) (cond (List.getD x2 (Int.toNat x4) (Tc.dflt tBar)).2.2.2.2 (f28h0 x0 ((List.getD x2 (Int.toNat x4) (Tc.dflt tBar)).2.2.1 == (0 : Int)) x2 x3 (wrap .i64 (x4 + (1 : Int)))) (f28h0 x0 false x2 x3 (wrap .i64 (x4 + (1 : Int))))))) none) none) (cond x1 (f28h0 x0 ((List.getD x2 (Int.toNat x4) (Tc.dflt tBar)).2.2.1 == (0 : Int)) x2 x3 (wrap .i64 (x4 + (1 : Int)))) (cond (List.getD x2 (Int.toNat x4) (Tc.dflt tBar)).2.2.2.2 (f28h0 x0 ((List.getD x2 (Int.toNat x4) (Tc.dflt tBar)).2.2.1 == (0 : Int)) x2 x3 (wrap .i64 (x4 + (1 : Int)))) (f28h0 x0 false x2 x3 (wrap .i64 (x4 + (1 : Int))))))))) (cond x1 (cond (decide ((0 : Int) ≤ (wrap .i64 (x4 - (1 : Int))))) (cond (decide ((wrap .i64 (x4 - (1 : Int))) < ((List.length x0 : Nat) : Int))) (cond (decide ((List.getD x2 (Int.toNat x4) (Tc.dflt tBar)).2.2.2.1 < (List.getD x0 (Int.toNat (wrap .i64 (x4 - (1 : Int)))) (Tc.dflt tBar)).2.2.2.1)) (some ⟨[.dat tI (16 : Int)], []⟩) (cond x1 (f28h0 x0 ((List.getD x2 (Int.toNat x4) (Tc.dflt tBar)).2.2.1 == (0 : Int)) x2 x3 (wrap .i64 (x4 + (1 : Int)))) (cond (List.getD x2 (Int.toNat x4) (Tc.dflt tBar)).2.2.2.2 (f28h0 x0 ((List.getD x2 (Int.toNat x4) (Tc.dflt tBar)).2.2.1 == (0 : Int)) x2 x3 (wrap .i64 (x4 + (1 : Int)))) (f28h0 x0 false x2 x3 (wrap .i64 (x4 + (1 : Int))))))) none) none) (cond x1 (f28h0 x0 ((List.getD x2 (Int.toNat x4) (Tc.dflt tBar)).2.2.1 == (0 : Int)) x2 x3 (wrap .i64 (x4 + (1 : Int)))) (cond (List.getD x2 (Int.toNat x4) (Tc.dflt tBar)).2.2.2.2 (f28h0 x0 ((List.getD x2 (Int.toNat x4) (Tc.dflt tBar)).2.2.1 == (0 : Int)) x2 x3 (wrap .i64 (x4 + (1 : Int)))) (f28h0 x0 false x2 x3 (wrap .i64 (x4 + (1 : Int)))))))) (cond x1 (cond (decide ((0 : Int) ≤ (wrap .i64 (x4 - (1 : Int))))) (cond (decide ((wrap .i64 (x4 - (1 : Int))) < ((List.length x0 : Nat) : Int))) (cond (decide ((List.getD x2 (Int.toNat x4) (Tc.dflt tBar)).2.2.2.1 < (List.getD x0 (Int.toNat (wrap .i64 (x4 - (1 : Int)))) (Tc.dflt tBar)).2.2.2.1)) (some ⟨[.dat tI (16 : Int)], []⟩) (cond x1 (f28h0 x0 ((List.getD x2 (Int.toNat x4) (Tc.dflt tBar)).2.2.1 == (0 : Int)) x2 x3 (wrap .i64 (x4 + (1 : Int)))) (cond (List.getD x2 (Int.toNat x4) (Tc.dflt tBar)).2.2.2.2 (f28h0 x0 ((List.getD x2 (Int.toNat x4) (Tc.dflt tBar)).2.2.1 == (0 : Int)) x2 x3 (wrap .i64 (x4 + (1 : Int)))) (f28h0 x0 false x2 x3 (wrap .i64 (x4 + (1 : Int))))))) none) none) (cond x1 (f28h0 x0 ((List.getD x2 (Int.toNat x4) (Tc.dflt tBar)).2.2.1 == (0 : Int)) x2 x3 (wrap .i64 (x4 + (1 : Int)))) (cond (List.getD x2 (Int.toNat x4) (Tc.dflt tBar)).2.2.2.2 (f28h0 x0 ((List.getD x2 (Int.toNat x4) (Tc.dflt tBar)).2.2.1 == (0 : Int)) x2 x3 (wrap .i64 (x4 + (1 : Int)))) (f28h0 x0 false x2 x3 (wrap .i64 (x4 + (1 : Int))))))))) (cond (!(List.getD x2 (Int.toNat x4) (Tc.dflt tBar)).2.2.2.2) (cond (!x1) (cond ((List.getD x2 (Int.toNat x4) (Tc.dflt tBar)).2.2.1 != (0 : Int)) (some ⟨[.dat tI (16 : Int)], []⟩) (cond ((List.getD x2 (Int.toNat x4) (Tc.dflt tBar)).2.2.2.1 != (0 : Int)) (some ⟨[.dat tI (16 : Int)], []⟩) (cond x1 (cond (decide ((0 : Int) ≤ (wrap .i64 (x4 - (1 : Int))))) (cond (decide ((wrap .i64 (x4 - (1 : Int))) < ((List.length x0 : Nat) : Int))) (cond (decide ((List.getD x2 (Int.toNat x4) (Tc.dflt tBar)).2.2.2.1 < (List.getD x0 (Int.toNat (wrap .i64 (x4 - (1 : Int)))) (Tc.dflt tBar)).2.2.2.1)) (some ⟨[.dat tI (16 : Int)], []⟩) (cond x1 (f28h0 x0 ((List.getD x2 (Int.toNat x4) (Tc.dflt tBar)).2.2.1 == (0 : Int)) x2 x3 (wrap .i64 (x4 + (1 : Int)))) (cond (List.getD x2 (Int.toNat x4) (Tc.dflt tBar)).2.2.2.2 (f28h0 x0 ((List.getD x2 (Int.toNat x4) (Tc.dflt tBar)).2.2.1 == (0 : Int)) x2 x3 (wrap .i64 (x4 + (1 : Int)))) (f28h0 x0 false x2 x3 (wrap .i64 (x4 + (1 : Int))))))) none) none) (cond x1 (f28h0 x0 ((List.getD x2 (Int.toNat x4) (Tc.dflt tBar)).2.2.1 == (0 : Int)) x2 x3 (wrap .i64 (x4 + (1 : Int)))) (cond (List.getD x2 (Int.toNat x4) (Tc.dflt tBar)).2.2.2.2 (f28h0 x0 ((List.getD x2 (Int.toNat x4) (Tc.dflt tBar)).2.2.1 == (0 : Int)) x2 x3 (wrap .i64 (x4 + (1 : Int)))) (f28h0 x0 false x2 x3 (wrap .i64 (x4 + (1 : Int))))))))) (cond x1 (cond (decide ((0 : Int) ≤ (wrap .i64 (x4 - (1 : Int))))) (cond (decide ((wrap .i64 (x4 - (1 : Int))) < ((List.length x0 : Nat) : Int))) (cond (decide ((List.getD x2 (Int.toNat x4) (Tc.dflt tBar)).2.2.2.1 < (List.getD x0 (Int.toNat (wrap .i64 (x4 - (1 : Int)))) (Tc.dflt tBar)).2.2.2.1)) (some ⟨[.dat tI (16 : Int)], []⟩) (cond x1 (f28h0 x0 ((List.getD x2 (Int.toNat x4) (Tc.dflt tBar)).2.2.1 == (0 : Int)) x2 x3 (wrap .i64 (x4 + (1 : Int)))) (cond (List.getD x2 (Int.toNat x4) (Tc.dflt tBar)).2.2.2.2 (f28h0 x0 ((List.getD x2 (Int.toNat x4) (Tc.dflt tBar)).2.2.1 == (0 : Int)) x2 x3 (wrap .i64 (x4 + (1 : Int)))) (f28h0 x0 false x2 x3 (wrap .i64 (x4 + (1 : Int))))))) none) none) (cond x1 (f28h0 x0 ((List.getD x2 (Int.toNat x4) (Tc.dflt tBar)).2.2.1 == (0 : Int)) x2 x3 (wrap .i64 (x4 + (1 : Int)))) (cond (List.getD x2 (Int.toNat x4) (Tc.dflt tBar)).2.2.2.2 (f28h0 x0 ((List.getD x2 (Int.toNat x4) (Tc.dflt tBar)).2.2.1 == (0 : Int)) x2 x3 (wrap .i64 (x4 + (1 : Int)))) (f28h0 x0 false x2 x3 (wrap .i64 (x4 + (1 : Int)))))))) (cond x1 (cond (decide ((0 : Int) ≤ (wrap .i64 (x4 - (1 : Int))))) (cond (decide ((wrap .i64 (x4 - (1 : Int))) < ((List.length x0 : Nat) : Int))) (cond (decide ((List.getD x2 (Int.toNat x4) (Tc.dflt tBar)).2.2.2.1 < (List.getD x0 (Int.toNat (wrap .i64 (x4 - (1 : Int)))) (Tc.dflt tBar)).2.2.2.1)) (some ⟨[.dat tI (16 : Int)], []⟩) (cond x1 (f28h0 x0 ((List.getD x2 (Int.toNat x4) (Tc.dflt tBar)).2.2.1 == (0 : Int)) x2 x3 (wrap .i64 (x4 + (1 : Int)))) (cond (List.getD x2 (Int.toNat x4) (Tc.dflt tBar)).2.2.2.2 (f28h0 x0 ((List.getD x2 (Int.toNat x4) (Tc.dflt tBar)).2.2.1 == (0 : Int)) x2 x3 (wrap .i64 (x4 + (1 : Int)))) (f28h0 x0 false x2 x3 (wrap .i64 (x4 + (1 : Int))))))) none) none) (cond x1 (f28h0 x0 ((List.getD x2 (Int.toNat x4) (Tc.dflt tBar)).2.2.1 == (0 : Int)) x2 x3 (wrap .i64 (x4 + (1 : Int)))) (cond (List.getD x2 (Int.toNat x4) (Tc.dflt tBar)).2.2.2.2 (f28h0 x0 ((List.getD x2 (Int.toNat x4) (Tc.dflt tBar)).2.2.1 == (0 : Int)) x2 x3 (wrap .i64 (x4 + (1 : Int)))) (f28h0 x0 false x2 x3 (wrap .i64 (x4 + (1 : Int)))))))))) none) none) (some ⟨[.dat tI (0 : Int)], []⟩)) := hdEq (by kernel_rfl)
noncomputable def f29h0 (x0 : (List Bar)) (x1 : Int) (x2 : (List Bar)) (x3 : Int) (x4 : Int) (x5 : (List Rep)) : Option Fr := I29.hd 0 (mkF 76 [(0, .dat (.slice tBar) x0), (4, .slc 500), (5, .dat tI x1), (12, .dat (.slice tBar) x2), (13, .dat tI x3), (14, .dat tI x4)] [(500, .arr tRep x5)])
noncomputable def f29h2 (x0 : (List Bar)) (x1 : Int) (x2 : Int) (x3 : Int) (x4 : (List Rep)) : Option Fr := I29.hd 2 (mkF 76 [(0, .dat (.slice tBar) x0), (4, .slc 500), (5, .dat tI x1), (44, .slc 500), (45, .dat tI x2), (46, .dat tI x3)] [(500, .arr tRep x4)])
noncomputable def f29h4 (x0 : (List Bar)) (x1 : Int) (x2 : Int) (x3 : Int) (x4 : (List Bar)) (x5 : Int) (x6 : Int) (x7 : (List Rep)) (x8 : Int) (x9 : Int) (x10 : Int) : Option Fr := I29.hd 4 (mkF 76 [(0, .dat (.slice tBar) x0), (4, .slc 500), (5, .dat tI x1), (9, .ptr 501 0), (44, .slc 500), (45, .dat tI x2), (46, .dat tI x3), (55, .dat (.slice tBar) x4), (56, .dat tI x5), (57, .dat tI x6)] [(500, .arr tRep x7), (501, .box [.dat tI x8, .dat tI x9, .dat tI x10])])
theorem f29_run (a0 : (List Bar)) : I29.run ⟨[.dat (.slice tBar) a0], []⟩ = (f29h0 a0 (-1 : Int) a0 ((List.length a0 : Nat) : Int) (0 : Int) []) := (I29.run_eq _).trans (by kernel_rfl)
theorem f29h0_eq (x0 : (List Bar)) (x1 : Int) (x2 : (List Bar)) (x3 : Int) (x4 : Int) (x5 : (List Rep)) : f29h0 x0 x1 x2 x3 x4 x5 = (cond (decide (x4 < x3)) (cond (decide ((0 : Int) ≤ x4)) (cond (decide (x4 < ((List.length x2 : Nat) : Int))) (cond (List.getD x2 (Int.toNat x4) (Tc.dflt tBar)).2.2.2.2 (cond (decide (x4 < (0 : Int))) (cond (decide ((List.length x5 + List.length [(x4, ((wrap .i64 (x4 + (1 : Int))), (1 : Int)))]) * 24 ≤ 140737488355328)) (f29h0 x0 x4 x2 x3 (wrap .i64 (x4 + (1 : Int))) (x5 ++ [(x4, ((wrap .i64 (x4 + (1 : Int))), (1 : Int)))])) none) (cond (decide ((List.getD x2 (Int.toNat x4) (Tc.dflt tBar)).2.2.1 > (0 : Int))) (cond (decide ((List.length x5 + List.length [(x4, ((wrap .i64 (x4 + (1 : Int))), (List.getD x2 (Int.toNat x4) (Tc.dflt tBar)).2.2.1))]) * 24 ≤ 140737488355328)) (f29h0 x0 (-1 : Int) x2 x3 (wrap .i64 (x4 + (1 : Int))) (x5 ++ [(x4, ((wrap .i64 (x4 + (1 : Int))), (List.getD x2 (Int.toNat x4) (Tc.dflt tBar)).2.2.1))])) none) (f29h0 x0 x4 x2 x3 (wrap .i64 (x4 + (1 : Int))) x5))) (cond (decide (x1 < (0 : Int))) (cond (decide ((List.length x5 + List.length [(x4, ((wrap .i64 (x4 + (1 : Int))), (1 : Int)))]) * 24 ≤ 140737488355328)) (f29h0 x0 x1 x2 x3 (wrap .i64 (x4 + (1 : Int))) (x5 ++ [(x4, ((wrap .i64 (x4 + (1 : Int))), (1 : Int)))])) none) (cond (decide ((List.getD x2 (Int.toNat x4) (Tc.dflt tBar)).2.2.1 > (0 : Int))) (cond (decide ((List.length x5 + List.length [(x1, ((wrap .i64 (x4 + (1 : Int))), (List.getD x2 (Int.toNat x4) (Tc.dflt tBar)).2.2.1))]) * 24 ≤ 140737488355328)) (f29h0 x0 (-1 : Int) x2 x3 (wrap .i64 (x4 + (1 : Int))) (x5 ++ [(x1, ((wrap .i64 (x4 + (1 : Int))), (List.getD x2 (Int.toNat x4) (Tc.dflt tBar)).2.2.1))])) none) (f29h0 x0 x1 x2 x3 (wrap .i64 (x4 + (1 : Int))) x5)))) none) none) (f29h2 x0 x1 ((List.length x5 : Nat) : Int) (0 : Int) x5)) := hdEq (by kernel_rfl)
theorem f29h2_eq (x0 : (List Bar)) (x1 : Int) (x2 : Int) (x3 : Int) (x4 : (List Rep)) : f29h2 x0 x1 x2 x3 x4 = (cond (decide (x3 < x2)) (cond (decide ((0 : Int) ≤ x3)) (cond (decide (x3 < ((List.length x4 : Nat) : Int))) (cond (decide ((Int.toNat x3) < List.length x4)) (cond (decide ((0 : Int) ≤ (List.getD x4 (Int.toNat x3) (Tc.dflt tRep)).1)) (cond (decide ((List.getD x4 (Int.toNat x3) (Tc.dflt tRep)).1 ≤ (List.getD x4 (Int.toNat x3) (Tc.dflt tRep)).2.1)) (cond (decide ((List.getD x4 (Int.toNat x3) (Tc.dflt tRep)).2.1 ≤ ((List.length x0 : Nat) : Int))) (f29h4 x0 x1 x2 x3 (List.drop (Int.toNat (List.getD x4 (Int.toNat x3) (Tc.dflt tRep)).1) (List.take (Int.toNat (List.getD x4 (Int.toNat x3) (Tc.dflt tRep)).2.1) x0)) ((List.length (List.drop (Int.toNat (List.getD x4 (Int.toNat x3) (Tc.dflt tRep)).1) (List.take (Int.toNat (List.getD x4 (Int.toNat x3) (Tc.dflt tRep)).2.1) x0)) : Nat) : Int) (0 : Int) x4 (List.getD x4 (Int.toNat x3) (Tc.dflt tRep)).1 (List.getD x4 (Int.toNat x3) (Tc.dflt tRep)).2.1 (List.getD x4 (Int.toNat x3) (Tc.dflt tRep)).2.2) none) none) none) none) none) none) (some ⟨[.slc 0, .dat .bool (decide (x1 < (0 : Int)))], [(0, .arr tRep x4)]⟩)) := hdEq (by kernel_rfl)
theorem f29h4_eq (x0 : (List Bar)) (x1 : Int) (x2 : Int) (x3 : Int) (x4 : (List Bar)) (x5 : Int) (x6 : Int) (x7 : (List Rep)) (x8 : Int) (x9 : Int) (x10 : Int) : f29h4 x0 x1 x2 x3 x4 x5 x6 x7 x8 x9 x10 = (cond (decide (x6 < x5)) (cond (decide ((0 : Int) ≤ x6)) (cond (decide (x6 < ((List.length x4 : Nat) : Int))) (cond (decide (x10 > (1 : Int))) (cond (decide ((List.getD x4 (Int.toNat x6) (Tc.dflt tBar)).2.2.2.1 > x10)) (some ⟨[.slc 0, .dat .bool false], [(0, .arr tRep [])]⟩) (f29h4 x0 x1 x2 x3 x4 x5 (wrap .i64 (x6 + (1 : Int))) x7 x8 x9 x10)) (f29h4 x0 x1 x2 x3 x4 x5 (wrap .i64 (x6 + (1 : Int))) x7 x8 x9 x10)) none) none) (f29h2 x0 x1 x2 (wrap .i64 (x3 + (1 : Int))) x7)) := hdEq (by kernel_rfl)
noncomputable def f30h0 (x0 : (List Bar)) (x1 : Int) (x2 : (List Rep)) (x3 : Int) (x4 : Int) (x5 : (List Int)) : Option Fr := I30.hd 0 (mkF 59 [(0, .dat (.slice tBar) x0), (2, .dat tI x1), (7, .slc 500), (12, .dat (.slice tRep) x2), (13, .dat tI x3), (14, .dat tI x4)] [(500, .arr tI x5)])
noncomputable def f30h2 (x0 : (List Bar)) (x1 : Int) (x2 : Int) (x3 : (List Rep)) (x4 : Int) (x5 : Int) (x6 : (List Int)) (x7 : Int) (x8 : Int) (x9 : Int) : Option Fr := I30.hd 2 (mkF 59 [(0, .dat (.slice tBar) x0), (2, .dat tI x1), (7, .slc 500), (9, .ptr 501 0), (10, .dat tI x2), (12, .dat (.slice tRep) x3), (13, .dat tI x4), (14, .dat tI x5)] [(500, .arr tI x6), (501, .box [.dat tI x7, .dat tI x8, .dat tI x9])])
noncomputable def f30h4 (x0 : (List Bar)) (x1 : Int) (x2 : Int) (x3 : Int) (x4 : (List Rep)) (x5 : Int) (x6 : Int) (x7 : (List Int)) (x8 : Int) (x9 : Int) (x10 : Int) : Option Fr := I30.hd 4 (mkF 59 [(0, .dat (.slice tBar) x0), (2, .dat tI x1), (7, .slc 500), (9, .ptr 501 0), (10, .dat tI x2), (11, .dat tI x3), (12, .dat (.slice tRep) x4), (13, .dat tI x5), (14, .dat tI x6)] [(500, .arr tI x7), (501, .box [.dat tI x8, .dat tI x9, .dat tI x10])])
theorem f30_run (a0 : (List Bar)) (a1 : (List Rep)) (a2 : Int) : I30.run ⟨[.dat (.slice tBar) a0, .dat (.slice tRep) a1, .dat tI a2], []⟩ = (f30h0 a0 a2 a1 ((List.length a1 : Nat) : Int) (0 : Int) []) := (I30.run_eq _).trans (by kernel_rfl)
theorem f30h0_eq (x0 : (List Bar)) (x1 : Int) (x2 : (List Rep)) (x3 : Int) (x4 : Int) (x5 : (List Int)) : f30h0 x0 x1 x2 x3 x4 x5 = (cond (decide (x4 < x3)) (cond (decide ((0 : Int) ≤ x4)) (cond (decide (x4 < ((List.length x2 : Nat) : Int))) (f30h2 x0 x1 (1 : Int) x2 x3 x4 x5 (List.getD x2 (Int.toNat x4) (Tc.dflt tRep)).1 (List.getD x2 (Int.toNat x4) (Tc.dflt tRep)).2.1 (List.getD x2 (Int.toNat x4) (Tc.dflt tRep)).2.2) none) none) (some ⟨[.slc 0], [(0, .arr tI x5)]⟩)) := hdEq (by kernel_rfl)
theorem f30h2_eq (x0 : (List Bar)) (x1 : Int) (x2 : Int) (x3 : (List Rep)) (x4 : Int) (x5 : Int) (x6 : (List Int)) (x7 : Int) (x8 : Int) (x9 : Int) : f30h2 x0 x1 x2 x3 x4 x5 x6 x7 x8 x9 = (cond (decide (x2 ≤ x9)) (f30h4 x0 x1 x2 x7 x3 x4 x5 x6 x7 x8 x9) (f30h0 x0 x1 x3 x4 (wrap .i64 (x5 + (1 : Int))) x6)) := hdEq (by kernel_rfl)
theorem f30h4_eq (x0 : (List Bar)) (x1 : Int) (x2 : Int) (x3 : Int) (x4 : (List Rep)) (x5 : Int) (x6 : Int) (x7 : (List Int)) (x8 : Int) (x9 : Int) (x10 : Int) : f30h4 x0 x1 x2 x3 x4 x5 x6 x7 x8 x9 x10 = (cond (decide (x3 < x9)) (cond (decide (((List.length x7 : Nat) : Int) ≤ x1)) (cond (decide ((0 : Int) ≤ x3)) (cond (decide (x3 < ((List.length x0 : Nat) : Int))) (cond ((List.getD x0 (Int.toNat x3) (Tc.dflt tBar)).2.2.2.1 == (0 : Int)) (cond (decide ((List.length x7 + List.length [x3]) * 8 ≤ 140737488355328)) (f30h4 x0 x1 x2 (wrap .i64 (x3 + (1 : Int))) x4 x5 x6 (x7 ++ [x3]) x8 x9 x10) none) (cond (decide ((0 : Int) ≤ x3)) (cond (decide (x3 < ((List.length x0 : Nat) : Int))) (cond ((List.getD x0 (Int.toNat x3) (Tc.dflt tBar)).2.2.2.1 == x2) (cond (decide ((List.length x7 + List.length [x3]) * 8 ≤ 140737488355328)) (f30h4 x0 x1 x2 (wrap .i64 (x3 + (1 : Int))) x4 x5 x6 (x7 ++ [x3]) x8 x9 x10) none) (f30h4 x0 x1 x2 (wrap .i64 (x3 + (1 : Int))) x4 x5 x6 x7 x8 x9 x10)) none) none)) none) none) (f30h2 x0 x1 (wrap .i64 (x2 + (1 : Int))) x4 x5 x6 x7 x8 x9 x10)) (f30h2 x0 x1 (wrap .i64 (x2 + (1 : Int))) x4 x5 x6 x7 x8 x9 x10)) := hdEq (by kernel_rfl)
theorem f13_run (a0 : (List Bar)) : I13.run ⟨[.dat (.slice tBar) a0], []⟩ = (cond (((List.length a0 : Nat) : Int) == (0 : Int)) (some ⟨[.dat tI (8 : Int)], []⟩) (cond (decide (((List.length a0 : Nat) : Int) > (300 : Int))) (some ⟨[.dat tI (2 : Int)], []⟩) (cond (decide (List.length a0 ≤ 300)) (cond ((rulesFault a0) != (0 : Int)) (some ⟨[.dat tI (rulesFault a0)], []⟩) (cond (decide (List.length a0 ≤ 300)) (cond (!((repeats a0).2)) (some ⟨[.dat tI (16 : Int)], []⟩) (cond (orderOk a0 ((repeats a0).1) && (2000 : Int) == 2000) (cond (decide (((List.length (order a0 ((repeats a0).1) (2000 : Int)) : Nat) : Int) > (2000 : Int))) (some ⟨[.dat tI (2 : Int)], []⟩) (some ⟨[.dat tI (0 : Int)], []⟩)) none)) none)) none))) := (I13.run_eq _).trans (by kernel_rfl)
theorem f21_run (a0 : (List Bar)) : I21.run ⟨[.dat (.slice tBar) a0], []⟩ = (cond (decide (List.length a0 ≤ 300)) (cond (orderOk a0 ((repeats a0).1) && (2000 : Int) == 2000) (some ⟨[.slc 0], [(0, .arr tI (order a0 ((repeats a0).1) (2000 : Int)))]⟩) none) none) := (I21.run_eq _).trans (by kernel_rfl)
theorem f6_run (a0 : (List Bar)) : I6.run ⟨[.dat (.slice tBar) a0], []⟩ = (cond ((checkBars a0) != (0 : Int)) (some ⟨[.slc 0, .dat tI (checkBars a0)], [(0, .arr tI [])]⟩) (cond (checkBars a0 == 0) (some ⟨[.slc 0, .dat tI (0 : Int)], [(0, .arr tI (played a0))]⟩) none)) := (I6.run_eq _).trans (by kernel_rfl)
theorem f22_run (a0 : Bar) : I22.run ⟨[.dat tBar a0], []⟩ = (cond (a0.2.1 == 0) none (some ⟨[.dat tI (wrap .i64 (a0.1 * (wrap .i64 (Int.tdiv (192 : Int) a0.2.1))))], []⟩)) := (I22.run_eq _).trans (by kernel_rfl)
noncomputable def f34h0 (x0 : Int) (x1 : Int) (x2 : Int) (x3 : Int) (x4 : Int) (x5 : Int) : Option Fr := I34.hd 0 (mkF 22 [(0, .dat tI x0), (1, .dat tI x1), (4, .ptr 500 0), (5, .dat tI x2), (6, .dat tI x3)] [(500, .box [.dat tI x4, .dat tI x5])])
theorem f34_run (a0 : Int) (a1 : Int) : I34.run ⟨[.dat tI a0, .dat tI a1], []⟩ = (f34h0 a0 a1 a0 a1 (0 : Int) (0 : Int)) := (I34.run_eq _).trans (by kernel_rfl)
theorem f34h0_eq (x0 : Int) (x1 : Int) (x2 : Int) (x3 : Int) (x4 : Int) (x5 : Int) : f34h0 x0 x1 x2 x3 x4 x5 = (cond (x3 != (0 : Int)) (cond (x3 == 0) none (f34h0 x0 x1 x3 (Int.tmod x2 x3) x4 x5)) (cond (x2 == 0) none (cond (x2 == 0) none (some ⟨[.dat tFrac ((wrap .i64 (Int.tdiv x0 x2)), (wrap .i64 (Int.tdiv x1 x2)))], []⟩)))) := hdEq (by kernel_rfl)
theorem f23_run (a0 : Int) : I23.run ⟨[.dat tI a0], []⟩ = (cond ((192 : Int) == 192) (some ⟨[.dat tFrac ((lowest a0 (192 : Int)).1, (lowest a0 (192 : Int)).2)], []⟩) none) := (I23.run_eq _).trans (by kernel_rfl)
noncomputable def f7h0 (x0 : (List Bar)) (x1 : Int) (x2 : Int) (x3 : Int) (x4 : Int) (x5 : Int) (x6 : (List Int)) : Option Fr := I7.hd 0 (mkF 31 [(0, .dat (.slice tBar) x0), (2, .ptr 500 0), (5, .dat tI x1), (15, .slc 501), (16, .dat tI x2), (17, .dat tI x3)] [(500, .box [.dat tI x4, .dat tI x5]), (501, .arr tI x6)])
theorem f7_run (a0 : (List Bar)) : I7.run ⟨[.dat (.slice tBar) a0], []⟩ = (cond ((checkBars a0) != (0 : Int)) (some ⟨[.dat tFrac ((0 : Int), (0 : Int)), .dat tI (checkBars a0)], []⟩) (cond (checkBars a0 == 0) (f7h0 a0 (0 : Int) ((List.length (played a0) : Nat) : Int) (0 : Int) (0 : Int) (0 : Int) (played a0)) none)) := (I7.run_eq _).trans (by kernel_rfl)
theorem f7h0_eq (x0 : (List Bar)) (x1 : Int) (x2 : Int) (x3 : Int) (x4 : Int) (x5 : Int) (x6 : (List Int)) : f7h0 x0 x1 x2 x3 x4 x5 x6 = (cond (decide (x3 < x2)) (cond (decide ((0 : Int) ≤ x3)) (cond (decide (x3 < ((List.length x6 : Nat) : Int))) (cond (decide ((Int.toNat x3) < List.length x6)) (cond (decide ((0 : Int) ≤ (List.getD x6 (Int.toNat x3) (Tc.dflt tI)))) (cond (decide ((List.getD x6 (Int.toNat x3) (Tc.dflt tI)) < ((List.length x0 : Nat) : Int))) (cond ((List.getD x0 (Int.toNat (List.getD x6 (Int.toNat x3) (Tc.dflt tI))) (Tc.dflt tBar)).2.1 != 0) (f7h0 x0 (wrap .i64 (x1 + (long (List.getD x0 (Int.toNat (List.getD x6 (Int.toNat x3) (Tc.dflt tI))) (Tc.dflt tBar))))) x2 (wrap .i64 (x3 + (1 : Int))) x4 x5 x6) none) none) none) none) none) none) (some ⟨[.dat tFrac ((lowest x1 192).1, (lowest x1 192).2), .dat tI (0 : Int)], []⟩)) := hdEq (by kernel_rfl)
noncomputable def f8h0 (x0 : Int) (x1 : (List Bar)) (x2 : Int) (x3 : Int) (x4 : (List Frac)) : Option Fr := I8.hd 0 (mkF 31 [(5, .slc 500), (6, .dat tI x0), (14, .dat (.slice tBar) x1), (15, .dat tI x2), (16, .dat tI x3)] [(500, .arr tFrac x4)])
theorem f8_run (a0 : (List Bar)) : I8.run ⟨[.dat (.slice tBar) a0], []⟩ = (cond ((checkBars a0) != (0 : Int)) (some ⟨[.slc 0, .dat tI (checkBars a0)], [(0, .arr tFrac [])]⟩) (f8h0 (0 : Int) a0 ((List.length a0 : Nat) : Int) (0 : Int) [])) := (I8.run_eq _).trans (by kernel_rfl)
theorem f8h0_eq (x0 : Int) (x1 : (List Bar)) (x2 : Int) (x3 : Int) (x4 : (List Frac)) : f8h0 x0 x1 x2 x3 x4 = (cond (decide (x3 < x2)) (cond (decide ((0 : Int) ≤ x3)) (cond (decide (x3 < ((List.length x1 : Nat) : Int))) (cond (decide ((List.length x4 + List.length [(lowest x0 192)]) * 16 ≤ 140737488355328)) (cond (((List.getD x1 (Int.toNat x3) (Tc.dflt tBar)).1, ((List.getD x1 (Int.toNat x3) (Tc.dflt tBar)).2.1, ((List.getD x1 (Int.toNat x3) (Tc.dflt tBar)).2.2.1, ((List.getD x1 (Int.toNat x3) (Tc.dflt tBar)).2.2.2.1, (List.getD x1 (Int.toNat x3) (Tc.dflt tBar)).2.2.2.2)))).2.1 != 0) (f8h0 (wrap .i64 (x0 + (long ((List.getD x1 (Int.toNat x3) (Tc.dflt tBar)).1, ((List.getD x1 (Int.toNat x3) (Tc.dflt tBar)).2.1, ((List.getD x1 (Int.toNat x3) (Tc.dflt tBar)).2.2.1, ((List.getD x1 (Int.toNat x3) (Tc.dflt tBar)).2.2.2.1, (List.getD x1 (Int.toNat x3) (Tc.dflt tBar)).2.2.2.2))))))) x1 x2 (wrap .i64 (x3 + (1 : Int))) (x4 ++ [(lowest x0 192)])) none) none) none) none) (some ⟨[.slc 0, .dat tI (0 : Int)], [(0, .arr tFrac x4)]⟩)) := hdEq (by kernel_rfl)
noncomputable def f10h0 (x0 : (List Bar)) (x1 : Int) (x2 : (List Int)) : Option Fr := I10.hd 0 (mkF 69 [(0, .dat (.slice tBar) x0), (3, .slc 500), (4, .dat tI x1)] [(500, .arr tI x2)])
noncomputable def f10h2 (x0 : (List Bar)) (x1 : Int) (x2 : Int) (x3 : (List Int)) : Option Fr := I10.hd 2 (mkF 69 [(0, .dat (.slice tBar) x0), (3, .slc 500), (4, .dat tI x1), (5, .dat tI x2)] [(500, .arr tI x3)])
noncomputable def f10h4 (x0 : (List Bar)) (x1 : Int) (x2 : Int) (x3 : Int) (x4 : (List Int)) : Option Fr := I10.hd 4 (mkF 69 [(0, .dat (.slice tBar) x0), (3, .slc 500), (4, .dat tI x1), (5, .dat tI x2), (6, .dat tI x3)] [(500, .arr tI x4)])
noncomputable def f10h6 (x0 : (List Bar)) (x1 : Int) (x2 : Int) (x3 : Int) (x4 : Int) (x5 : (List Int)) : Option Fr := I10.hd 6 (mkF 69 [(0, .dat (.slice tBar) x0), (3, .slc 500), (4, .dat tI x1), (5, .dat tI x2), (6, .dat tI x3), (7, .dat tI x4)] [(500, .arr tI x5)])
theorem f10_run (a0 : (List Bar)) : I10.run ⟨[.dat (.slice tBar) a0], []⟩ = (f10h0 a0 (0 : Int) []) := (I10.run_eq _).trans (by kernel_rfl)
theorem f10h0_eq (x0 : (List Bar)) (x1 : Int) (x2 : (List Int)) : f10h0 x0 x1 x2 = (cond (decide (x1 < ((List.length x0 : Nat) : Int))) (cond (decide ((0 : Int) ≤ x1)) (cond (decide (x1 < ((List.length x0 : Nat) : Int))) (cond (!(List.getD x0 (Int.toNat x1) (Tc.dflt tBar)).2.2.2.2) (cond (decide ((List.length x2 + List.length [x1]) * 8 ≤ 140737488355328)) (f10h0 x0 (wrap .i64 (x1 + (1 : Int))) (x2 ++ [x1])) none) (f10h2 x0 x1 x1 x2)) none) none) (some ⟨[.slc 0], [(0, .arr tI x2)]⟩)) := hdEq (by kernel_rfl)
theorem f10h2_eq (x0 : (List Bar)) (x1 : Int) (x2 : Int) (x3 : (List Int)) : f10h2 x0 x1 x2 x3 = (cond (decide ((0 : Int) ≤ x2)) (cond (decide (x2 < ((List.length x0 : Nat) : Int))) (cond ((List.getD x0 (Int.toNat x2) (Tc.dflt tBar)).2.2.1 == (0 : Int)) (f10h2 x0 x1 (wrap .i64 (x2 + (1 : Int))) x3) (f10h4 x0 x1 x2 (1 : Int) x3)) none) none) := hdEq (by kernel_rfl)
theorem f10h4_eq (x0 : (List Bar)) (x1 : Int) (x2 : Int) (x3 : Int) (x4 : (List Int)) : f10h4 x0 x1 x2 x3 x4 = (cond (decide ((0 : Int) ≤ x2)) (cond (decide (x2 < ((List.length x0 : Nat) : Int))) (cond (decide (x3 ≤ (List.getD x0 (Int.toNat x2) (Tc.dflt tBar)).2.2.1)) (f10h6 x0 x1 x2 x3 x1 x4) (f10h0 x0 (wrap .i64 (x2 + (1 : Int))) x4)) none) none) := hdEq (by kernel_rfl)
theorem f10h6_eq (x0 : (List Bar)) (x1 : Int) (x2 : Int) (x3 : Int) (x4 : Int) (x5 : (List Int)) : f10h6 x0 x1 x2 x3 x4 x5 = (cond (decide (x4 ≤ x2)) (cond (decide ((0 : Int) ≤ x4)) (cond (decide (x4 < ((List.length x0 : Nat) : Int))) (cond ((List.getD x0 (Int.toNat x4) (Tc.dflt tBar)).2.2.2.1 == (0 : Int)) (cond (decide ((List.length x5 + List.length [x4]) * 8 ≤ 140737488355328)) (f10h6 x0 x1 x2 x3 (wrap .i64 (x4 + (1 : Int))) (x5 ++ [x4])) none) (cond (decide ((0 : Int) ≤ x4)) (cond (decide (x4 < ((List.length x0 : Nat) : Int))) (cond ((List.getD x0 (Int.toNat x4) (Tc.dflt tBar)).2.2.2.1 == x3) (cond (decide ((List.length x5 + List.length [x4]) * 8 ≤ 140737488355328)) (f10h6 x0 x1 x2 x3 (wrap .i64 (x4 + (1 : Int))) (x5 ++ [x4])) none) (f10h6 x0 x1 x2 x3 (wrap .i64 (x4 + (1 : Int))) x5)) none) none)) none) none) (f10h4 x0 x1 x2 (wrap .i64 (x3 + (1 : Int))) x5)) := hdEq (by kernel_rfl)
theorem f24_run (a0 : Int) (a1 : Int) (a2 : Int) : I24.run ⟨[.dat tI a0, .dat tI a1, .dat tI a2], []⟩ = (cond (decide (a1 ≤ a0)) (some ⟨[.dat .bool (decide (a0 ≤ a2))], []⟩) (some ⟨[.dat .bool false], []⟩)) := (I24.run_eq _).trans (by kernel_rfl)
noncomputable def f9h1 (x0 : (List Bar)) (x1 : Bool) (x2 : Int) (x3 : Int) (x4 : Bool) (x5 : (List Bar)) (x6 : Int) (x7 : Int) : Option Fr := I9.hd 1 (mkF 101 [(0, .dat (.slice tBar) x0), (3, .dat .bool x1), (4, .dat tI x2), (5, .dat tI x3), (6, .dat .bool x4), (17, .dat (.slice tBar) x5), (18, .dat tI x6), (19, .dat tI x7)] [])
theorem f9_run (a0 : (List Bar)) : I9.run ⟨[.dat (.slice tBar) a0], []⟩ = (cond (((List.length a0 : Nat) : Int) == (0 : Int)) (some ⟨[.dat tI (8 : Int)], []⟩) (cond (decide (((List.length a0 : Nat) : Int) > (300 : Int))) (some ⟨[.dat tI (2 : Int)], []⟩) (f9h1 a0 false (0 : Int) (0 : Int) false a0 ((List.length a0 : Nat) : Int) (0 : Int)))) := (I9.run_eq _).trans (by kernel_rfl)
theorem f9h1_eq (x0 : (List Bar)) (x1 : Bool) (x2 : Int) (x3 : Int) (x4 : Bool) (x5 : (List Bar)) (x6 : Int) (x7 : Int) : f9h1 x0 x1 x2 x3 x4 x5 x6 x7 = (cond (decide (x7 < x6)) (cond (decide ((0 : Int) ≤ x7)) (cond (decide (x7 < ((List.length x5 : Nat) : Int))) (cond (!(inR (List.getD x5 (Int.toNat x7) (Tc.dflt tBar)).1 (1 : Int) (16 : Int))) (some ⟨[.dat tI (1 : Int)], []⟩) (cond (decide (List.length [(1 : Int), (2 : Int), (4 : Int), (8 : Int), (16 : Int)] ≤ 1000000)) (cond (!(containsI [(1 : Int), (2 : Int), (4 : Int), (8 : Int), (16 : Int)] (List.getD x5 (Int.toNat x7) (Tc.dflt tBar)).2.1)) (some ⟨[.dat tI (1 : Int)], []⟩) (cond ((List.getD x5 (Int.toNat x7) (Tc.dflt tBar)).2.2.1 != (0 : Int)) (cond (!(inR (List.getD x5 (Int.toNat x7) (Tc.dflt tBar)).2.2.1 (2 : Int) (9 : Int))) (some ⟨[.dat tI (1 : Int)], []⟩) (cond (!(inR (List.getD x5 (Int.toNat x7) (Tc.dflt tBar)).2.2.2.1 (0 : Int) (9 : Int))) (some ⟨[.dat tI (1 : Int)], []⟩) (cond (List.getD x5 (Int.toNat x7) (Tc.dflt tBar)).2.2.2.2 (cond x1 (some ⟨[.dat tI (16 : Int)], []⟩) (cond (decide ((List.getD x5 (Int.toNat x7) (Tc.dflt tBar)).2.2.2.1 < (0 : Int))) (some ⟨[.dat tI (16 : Int)], []⟩) (cond ((List.getD x5 (Int.toNat x7) (Tc.dflt tBar)).2.2.1 != (0 : Int)) (cond x4 (f9h1 x0 false (List.getD x5 (Int.toNat x7) (Tc.dflt tBar)).2.2.2.1 (if (0 : Int) < (List.getD x5 (Int.toNat x7) (Tc.dflt tBar)).2.2.2.1 then (List.getD x5 (Int.toNat x7) (Tc.dflt tBar)).2.2.2.1 else (0 : Int)) true x5 x6 (wrap .i64 (x7 + (1 : Int)))) (f9h1 x0 false (List.getD x5 (Int.toNat x7) (Tc.dflt tBar)).2.2.2.1 (if (0 : Int) < (List.getD x5 (Int.toNat x7) (Tc.dflt tBar)).2.2.2.1 then (List.getD x5 (Int.toNat x7) (Tc.dflt tBar)).2.2.2.1 else (0 : Int)) (decide ((if (0 : Int) < (List.getD x5 (Int.toNat x7) (Tc.dflt tBar)).2.2.2.1 then (List.getD x5 (Int.toNat x7) (Tc.dflt tBar)).2.2.2.1 else (0 : Int)) > (List.getD x5 (Int.toNat x7) (Tc.dflt tBar)).2.2.1)) x5 x6 (wrap .i64 (x7 + (1 : Int))))) (f9h1 x0 true (List.getD x5 (Int.toNat x7) (Tc.dflt tBar)).2.2.2.1 (if (0 : Int) < (List.getD x5 (Int.toNat x7) (Tc.dflt tBar)).2.2.2.1 then (List.getD x5 (Int.toNat x7) (Tc.dflt tBar)).2.2.2.1 else (0 : Int)) x4 x5 x6 (wrap .i64 (x7 + (1 : Int))))))) (cond (!x1) (cond ((List.getD x5 (Int.toNat x7) (Tc.dflt tBar)).2.2.1 != (0 : Int)) (some ⟨[.dat tI (16 : Int)], []⟩) (cond ((List.getD x5 (Int.toNat x7) (Tc.dflt tBar)).2.2.2.1 != (0 : Int)) (some ⟨[.dat tI (16 : Int)], []⟩) (cond x1 (cond (decide ((List.getD x5 (Int.toNat x7) (Tc.dflt tBar)).2.2.2.1 < x2)) (some ⟨[.dat tI (16 : Int)], []⟩) (cond x1 (cond ((List.getD x5 (Int.toNat x7) (Tc.dflt tBar)).2.2.1 != (0 : Int)) (cond x4 (f9h1 x0 false (List.getD x5 (Int.toNat x7) (Tc.dflt tBar)).2.2.2.1 (if x3 < (List.getD x5 (Int.toNat x7) (Tc.dflt tBar)).2.2.2.1 then (List.getD x5 (Int.toNat x7) (Tc.dflt tBar)).2.2.2.1 else x3) true x5 x6 (wrap .i64 (x7 + (1 : Int)))) (f9h1 x0 false (List.getD x5 (Int.toNat x7) (Tc.dflt tBar)).2.2.2.1 (if x3 < (List.getD x5 (Int.toNat x7) (Tc.dflt tBar)).2.2.2.1 then (List.getD x5 (Int.toNat x7) (Tc.dflt tBar)).2.2.2.1 else x3) (decide ((if x3 < (List.getD x5 (Int.toNat x7) (Tc.dflt tBar)).2.2.2.1 then (List.getD x5 (Int.toNat x7) (Tc.dflt tBar)).2.2.2.1 else x3) > (List.getD x5 (Int.toNat x7) (Tc.dflt tBar)).2.2.1)) x5 x6 (wrap .i64 (x7 + (1 : Int))))) (f9h1 x0 x1 (List.getD x5 (Int.toNat x7) (Tc.dflt tBar)).2.2.2.1 (if x3 < (List.getD x5 (Int.toNat x7) (Tc.dflt tBar)).2.2.2.1 then (List.getD x5 (Int.toNat x7) (Tc.dflt tBar)).2.2.2.1 else x3) x4 x5 x6 (wrap .i64 (x7 + (1 : Int))))) (cond ((List.getD x5 (Int.toNat x7) (Tc.dflt tBar)).2.2.1 != (0 : Int)) (cond x4 (f9h1 x0 false x2 x3 true x5 x6 (wrap .i64 (x7 + (1 : Int)))) (f9h1 x0 false x2 x3 (decide (x3 > (List.getD x5 (Int.toNat x7) (Tc.dflt tBar)).2.2.1)) x5 x6 (wrap .i64 (x7 + (1 : Int))))) (f9h1 x0 x1 x2 x3 x4 x5 x6 (wrap .i64 (x7 + (1 : Int))))))) (cond x1 (cond ((List.getD x5 (Int.toNat x7) (Tc.dflt tBar)).2.2.1 != (0 : Int)) (cond x4 (f9h1 x0 false (List.getD x5 (Int.toNat x7) (Tc.dflt tBar)).2.2.2.1 (if x3 < (List.getD x5 (Int.toNat x7) (Tc.dflt tBar)).2.2.2.1 then (List.getD x5 (Int.toNat x7) (Tc.dflt tBar)).2.2.2.1 else x3) true x5 x6 (wrap .i64 (x7 + (1 : Int)))) (f9h1 x0 false (List.getD x5 (Int.toNat x7) (Tc.dflt tBar)).2.2.2.1 (if x3 < (List.getD x5 (Int.toNat x7) (Tc.dflt tBar)).2.2.2.1 then (List.getD x5 (Int.toNat x7) (Tc.dflt tBar)).2.2.2.1 else x3) (decide ((if x3 < (List.getD x5 (Int.toNat x7) (Tc.dflt tBar)).2.2.2.1 then (List.getD x5 (Int.toNat x7) (Tc.dflt tBar)).2.2.2.1 else x3) > (List.getD x5 (Int.toNat x7) (Tc.dflt tBar)).2.2.1)) x5 x6 (wrap .i64 (x7 + (1 : Int))))) (f9h1 x0 x1 (List.getD x5 (Int.toNat x7) (Tc.dflt tBar)).2.2.2.1 (if x3 < (List.getD x5 (Int.toNat x7) (Tc.dflt tBar)).2.2.2.1 then (List.getD x5 (Int.toNat x7) (Tc.dflt tBar)).2.2.2.1 else x3) x4 x5 x6 (wrap .i64 (x7 + (1 : Int))))) (cond ((List.getD x5 (Int.toNat x7) (Tc.dflt tBar)).2.2.1 != (0 : Int)) (cond x4 (f9h1 x0 false x2 x3 true x5 x6 (wrap .i64 (x7 + (1 : Int)))) (f9h1 x0 false x2 x3 (decide (x3 > (List.getD x5 (Int.toNat x7) (Tc.dflt tBar)).2.2.1)) x5 x6 (wrap .i64 (x7 + (1 : Int))))) (f9h1 x0 x1 x2 x3 x4 x5 x6 (wrap .i64 (x7 + (1 : Int))))))))) (cond x1 (cond (decide ((List.getD x5 (Int.toNat x7) (Tc.dflt tBar)).2.2.2.1 < x2)) (some ⟨[.dat tI (16 : Int)], []⟩) (cond x1 (cond ((List.getD x5 (Int.toNat x7) (Tc.dflt tBar)).2.2.1 != (0 : Int)) (cond x4 (f9h1 x0 false (List.getD x5 (Int.toNat x7) (Tc.dflt tBar)).2.2.2.1 (if x3 < (List.getD x5 (Int.toNat x7) (Tc.dflt tBar)).2.2.2.1 then (List.getD x5 (Int.toNat x7) (Tc.dflt tBar)).2.2.2.1 else x3) true x5 x6 (wrap .i64 (x7 + (1 : Int)))) (f9h1 x0 false (List.getD x5 (Int.toNat x7) (Tc.dflt tBar)).2.2.2.1 (if x3 < (List.getD x5 (Int.toNat x7) (Tc.dflt tBar)).2.2.2.1 then (List.getD x5 (Int.toNat x7) (Tc.dflt tBar)).2.2.2.1 else x3) (decide ((if x3 < (List.getD x5 (Int.toNat x7) (Tc.dflt tBar)).2.2.2.1 then (List.getD x5 (Int.toNat x7) (Tc.dflt tBar)).2.2.2.1 else x3) > (List.getD x5 (Int.toNat x7) (Tc.dflt tBar)).2.2.1)) x5 x6 (wrap .i64 (x7 + (1 : Int))))) (f9h1 x0 x1 (List.getD x5 (Int.toNat x7) (Tc.dflt tBar)).2.2.2.1 (if x3 < (List.getD x5 (Int.toNat x7) (Tc.dflt tBar)).2.2.2.1 then (List.getD x5 (Int.toNat x7) (Tc.dflt tBar)).2.2.2.1 else x3) x4 x5 x6 (wrap .i64 (x7 + (1 : Int))))) (cond ((List.getD x5 (Int.toNat x7) (Tc.dflt tBar)).2.2.1 != (0 : Int)) (cond x4 (f9h1 x0 false x2 x3 true x5 x6 (wrap .i64 (x7 + (1 : Int)))) (f9h1 x0 false x2 x3 (decide (x3 > (List.getD x5 (Int.toNat x7) (Tc.dflt tBar)).2.2.1)) x5 x6 (wrap .i64 (x7 + (1 : Int))))) (f9h1 x0 x1 x2 x3 x4 x5 x6 (wrap .i64 (x7 + (1 : Int))))))) (cond x1 (cond ((List.getD x5 (Int.toNat x7) (Tc.dflt tBar)).2.2.1 != (0 : Int)) (cond x4 (f9h1 x0 false (List.getD x5 (Int.toNat x7) (Tc.dflt tBar)).2.2.2.1 (if x3 < (List.getD x5 (Int.toNat x7) (Tc.dflt tBar)).2.2.2.1 then (List.getD x5 (Int.toNat x7) (Tc.dflt tBar)).2.2.2.1 else x3) true x5 x6 (wrap .i64 (x7 + (1 : Int)))) (f9h1 x0 false (List.getD x5 (Int.toNat x7) (Tc.dflt tBar)).2.2.2.1 (if x3 < (List.getD x5 (Int.toNat x7) (Tc.dflt tBar)).2.2.2.1 then (List.getD x5 (Int.toNat x7) (Tc.dflt tBar)).2.2.2.1 else x3) (decide ((if x3 < (List.getD x5 (Int.toNat x7) (Tc.dflt tBar)).2.2.2.1 then (List.getD x5 (Int.toNat x7) (Tc.dflt tBar)).2.2.2.1 else x3) > (List.getD x5 (Int.toNat x7) (Tc.dflt tBar)).2.2.1)) x5 x6 (wrap .i64 (x7 + (1 : Int))))) (f9h1 x0 x1 (List.getD x5 (Int.toNat x7) (Tc.dflt tBar)).2.2.2.1 (if x3 < (List.getD x5 (Int.toNat x7) (Tc.dflt tBar)).2.2.2.1 then (List.getD x5 (Int.toNat x7) (Tc.dflt tBar)).2.2.2.1 else x3) x4 x5 x6 (wrap .i64 (x7 + (1 : Int))))) (cond ((List.getD x5 (Int.toNat x7) (Tc.dflt tBar)).2.2.1 != (0 : Int)) (cond x4 (f9h1 x0 false x2 x3 true x5 x6 (wrap .i64 (x7 + (1 : Int)))) (f9h1 x0 false x2 x3 (decide (x3 > (List.getD x5 (Int.toNat x7) (Tc.dflt tBar)).2.2.1)) x5 x6 (wrap .i64 (x7 + (1 : Int))))) (f9h1 x0 x1 x2 x3 x4 x5 x6 (wrap .i64 (x7 + (1 : Int))))))))))) (cond (!(inR (List.getD x5 (Int.toNat x7) (Tc.dflt tBar)).2.2.2.1 (0 : Int) (9 : Int))) (some ⟨[.dat tI (1 : Int)], []⟩) (cond (List.getD x5 (Int.toNat x7) (Tc.dflt tBar)).2.2.2.2 (cond x1 (some ⟨[.dat tI (16 : Int)], []⟩) (cond (decide ((List.getD x5 (Int.toNat x7) (Tc.dflt tBar)).2.2.2.1 < (0 : Int))) (some ⟨[.dat tI (16 : Int)], []⟩) (cond ((List.getD x5 (Int.toNat x7) (Tc.dflt tBar)).2.2.1 != (0 : Int)) (cond x4 (f9h1 x0 false (List.getD x5 (Int.toNat x7) (Tc.dflt tBar)).2.2.2.1 (if (0 : Int) < (List.getD x5 (Int.toNat x7) (Tc.dflt tBar)).2.2.2.1 then (List.getD x5 (Int.toNat x7) (Tc.dflt tBar)).2.2.2.1 else (0 : Int)) true x5 x6 (wrap .i64 (x7 + (1 : Int)))) (f9h1 x0 false (List.getD x5 (Int.toNat x7) (Tc.dflt tBar)).2.2.2.1 (if (0 : Int) < (List.getD x5 (Int.toNat x7) (Tc.dflt tBar)).2.2.2.1 then (List.getD x5 (Int.toNat x7) (Tc.dflt tBar)).2.2.2.1 else (0 : Int)) (decide ((if (0 : Int) < (List.getD x5 (Int.toNat x7) (Tc.dflt tBar)).2.2.2.1 then (List.getD x5 (Int.toNat x7) (Tc.dflt tBar)).2.2.2.1 else (0 : Int)) > (List.getD x5 (Int.toNat x7) (Tc.dflt tBar)).2.2.1)) x5 x6 (wrap .i64 (x7 + (1 : Int))))) (f9h1 x0 true (List.getD x5 (Int.toNat x7) (Tc.dflt tBar)).2.2.2.1 (if (0 : Int) < (List.getD x5 (Int.toNat x7) (Tc.dflt tBar)).2.2.2.1 then (List.getD x5 (Int.toNat x7) (Tc.dflt tBar)).2.2.2.1 else (0 : Int)) x4 x5 x6 (wrap .i64 (x7 + (1 : Int))))))) (cond (!x1) (cond ((List.getD x5 (Int.toNat x7) (Tc.dflt tBar)).2.2.1 != (0 : Int)) (some ⟨[.dat tI (16 : Int)], []⟩) (cond ((List.getD x5 (Int.toNat x7) (Tc.dflt tBar)).2.2.2.1 != (0 : Int)) (some ⟨[.dat tI (16 : Int)], []⟩) (cond x1 (cond (decide ((List.getD x5 (Int.toNat x7) (Tc.dflt tBar)).2.2.2.1 < x2)) (some ⟨[.dat tI (16 : Int)], []⟩) (cond x1 (cond ((List.getD x5 (Int.toNat x7) (Tc.dflt tBar)).2.2.1 != (0 : Int)) (cond x4 (f9h1 x0 false (List.getD x5 (Int.toNat x7) (Tc.dflt tBar)).2.2.2.1 (if x3 < (List.getD x5 (Int.toNat x7) (Tc.dflt tBar)).2.2.2.1 then (List.getD x5 (Int.toNat x7) (Tc.dflt tBar)).2.2.2.1 else x3) true x5 x6 (wrap .i64 (x7 + (1 : Int)))) (f9h1 x0 false (List.getD x5 (Int.toNat x7) (Tc.dflt tBar)).2.2.2.1 (if x3 < (List.getD x5 (Int.toNat x7) (Tc.dflt tBar)).2.2.2.1 then (List.getD x5 (Int.toNat x7) (Tc.dflt tBar)).2.2.2.1 else x3) (decide ((if x3 < (List.getD x5 (Int.toNat x7) (Tc.dflt tBar)).2.2.2.1 then (List.getD x5 (Int.toNat x7) (Tc.dflt tBar)).2.2.2.1 else x3) > (List.getD x5 (Int.toNat x7) (Tc.dflt tBar)).2.2.1)) x5 x6 (wrap .i64 (x7 + (1 : Int))))) (f9h1 x0 x1 (List.getD x5 (Int.toNat x7) (Tc.dflt tBar)).2.2.2.1 (if x3 < (List.getD x5 (Int.toNat x7) (Tc.dflt tBar)).2.2.2.1 then (List.getD x5 (Int.toNat x7) (Tc.dflt tBar)).2.2.2.1 else x3) x4 x5 x6 (wrap .i64 (x7 + (1 : Int))))) (cond ((List.getD x5 (Int.toNat x7) (Tc.dflt tBar)).2.2.1 != (0 : Int)) (cond x4 (f9h1 x0 false x2 x3 true x5 x6 (wrap .i64 (x7 + (1 : Int)))) (f9h1 x0 false x2 x3 (decide (x3 > (List.getD x5 (Int.toNat x7) (Tc.dflt tBar)).2.2.1)) x5 x6 (wrap .i64 (x7 + (1 : Int))))) (f9h1 x0 x1 x2 x3 x4 x5 x6 (wrap .i64 (x7 + (1 : Int))))))) (cond x1 (cond ((List.getD x5 (Int.toNat x7) (Tc.dflt tBar)).2.2.1 != (0 : Int)) (cond x4 (f9h1 x0 false (List.getD x5 (Int.toNat x7) (Tc.dflt tBar)).2.2.2.1 (if x3 < (List.getD x5 (Int.toNat x7) (Tc.dflt tBar)).2.2.2.1 then (List.getD x5 (Int.toNat x7) (Tc.dflt tBar)).2.2.2.1 else x3) true x5 x6 (wrap .i64 (x7 + (1 : Int)))) (f9h1 x0 false (List.getD x5 (Int.toNat x7) (Tc.dflt tBar)).2.2.2.1 (if x3 < (List.getD x5 (Int.toNat x7) (Tc.dflt tBar)).2.2.2.1 then (List.getD x5 (Int.toNat x7) (Tc.dflt tBar)).2.2.2.1 else x3) (decide ((if x3 < (List.getD x5 (Int.toNat x7) (Tc.dflt tBar)).2.2.2.1 then (List.getD x5 (Int.toNat x7) (Tc.dflt tBar)).2.2.2.1 else x3) > (List.getD x5 (Int.toNat x7) (Tc.dflt tBar)).2.2.1)) x5 x6 (wrap .i64 (x7 + (1 : Int))))) (f9h1 x0 x1 (List.getD x5 (Int.toNat x7) (Tc.dflt tBar)).2.2.2.1 (if x3 < (List.getD x5 (Int.toNat x7) (Tc.dflt tBar)).2.2.2.1 then (List.getD x5 (Int.toNat x7) (Tc.dflt tBar)).2.2.2.1 else x3) x4 x5 x6 (wrap .i64 (x7 + (1 : Int))))) (cond ((List.getD x5 (Int.toNat x7) (Tc.dflt tBar)).2.2.1 != (0 : Int)) (cond x4 (f9h1 x0 false x2 x3 true x5 x6 (wrap .i64 (x7 + (1 : Int)))) (f9h1 x0 false x2 x3 (decide (x3 > (List.getD x5 (Int.toNat x7) (Tc.dflt tBar)).2.2.1)) x5 x6 (wrap .i64 (x7 + (1 : Int))))) (f9h1 x0 x1 x2 x3 x4 x5 x6 (wrap .i64 (x7 + (1 : Int))))))))) (cond x1 (cond (decide ((List.getD x5 (Int.toNat x7) (Tc.dflt tBar)).2.2.2.1 < x2)) (some ⟨[.dat tI (16 : Int)], []⟩) (cond x1 (cond ((List.getD x5 (Int.toNat x7) (Tc.dflt tBar)).2.2.1 != (0 : Int)) (cond x4 (f9h1 x0 false (List.getD x5 (Int.toNat x7) (Tc.dflt tBar)).2.2.2.1 (if x3 < (List.getD x5 (Int.toNat x7) (Tc.dflt tBar)).2.2.2.1 then (List.getD x5 (Int.toNat x7) (Tc.dflt tBar)).2.2.2.1 else x3) true x5 x6 (wrap .i64 (x7 + (1 : Int)))) (f9h1 x0 false (List.getD x5 (Int.toNat x7) (Tc.dflt tBar)).2.2.2.1 (if x3 < (List.getD x5 (Int.toNat x7) (Tc.dflt tBar)).2.2.2.1 then (List.getD x5 (Int.toNat x7) (Tc.dflt tBar)).2.2.2.1 else x3) (decide ((if x3 < (List.getD x5 (Int.toNat x7) (Tc.dflt tBar)).2.2.2.1 then (List.getD x5 (Int.toNat x7) (Tc.dflt tBar)).2.2.2.1 else x3) > (List.getD x5 (Int.toNat x7) (Tc.dflt tBar)).2.2.1)) x5 x6 (wrap .i64 (x7 + (1 : Int))))) (f9h1 x0 x1 (List.getD x5 (Int.toNat x7) (Tc.dflt tBar)).2.2.2.1 (if x3 < (List.getD x5 (Int.toNat x7) (Tc.dflt tBar)).2.2.2.1 then (List.getD x5 (Int.toNat x7) (Tc.dflt tBar)).2.2.2.1 else x3) x4 x5 x6 (wrap .i64 (x7 + (1 : Int))))) (cond ((List.getD x5 (Int.toNat x7) (Tc.dflt tBar)).2.2.1 != (0 : Int)) (cond x4 (f9h1 x0 false x2 x3 true x5 x6 (wrap .i64 (x7 + (1 : Int)))) (f9h1 x0 false x2 x3 (decide (x3 > (List.getD x5 (Int.toNat x7) (Tc.dflt tBar)).2.2.1)) x5 x6 (wrap .i64 (x7 + (1 : Int))))) (f9h1 x0 x1 x2 x3 x4 x5 x6 (wrap .i64 (x7 + (1 : Int))))))) (cond x1 (cond ((List.getD x5 (Int.toNat x7) (Tc.dflt tBar)).2.2.1 != (0 : Int)) (cond x4 (f9h1 x0 false (List.getD x5 (Int.toNat x7) (Tc.dflt tBar)).2.2.2.1 (if x3 < (List.getD x5 (Int.toNat x7) (Tc.dflt tBar)).2.2.2.1 then (List.getD x5 (Int.toNat x7) (Tc.dflt tBar)).2.2.2.1 else x3) true x5 x6 (wrap .i64 (x7 + (1 : Int)))) (f9h1 x0 false (List.getD x5 (Int.toNat x7) (Tc.dflt tBar)).2.2.2.1 (if x3 < (List.getD x5 (Int.toNat x7) (Tc.dflt tBar)).2.2.2.1 then (List.getD x5 (Int.toNat x7) (Tc.dflt tBar)).2.2.2.1 else x3) (decide ((if x3 < (List.getD x5 (Int.toNat x7) (Tc.dflt tBar)).2.2.2.1 then (List.getD x5 (Int.toNat x7) (Tc.dflt tBar)).2.2.2.1 else x3) > (List.getD x5 (Int.toNat x7) (Tc.dflt tBar)).2.2.1)) x5 x6 (wrap .i64 (x7 + (1 : Int))))) (f9h1 x0 x1 (List.getD x5 (Int.toNat x7) (Tc.dflt tBar)).2.2.2.1 (if x3 < (List.getD x5 (Int.toNat x7) (Tc.dflt tBar)).2.2.2.1 then (List.getD x5 (Int.toNat x7) (Tc.dflt tBar)).2.2.2.1 else x3) x4 x5 x6 (wrap .i64 (x7 + (1 : Int))))) (cond ((List.getD x5 (Int.toNat x7) (Tc.dflt tBar)).2.2.1 != (0 : Int)) (cond x4 (f9h1 x0 false x2 x3 true x5 x6 (wrap .i64 (x7 + (1 : Int)))) (f9h1 x0 false x2 x3 (decide (x3 > (List.getD x5 (Int.toNat x7) (Tc.dflt tBar)).2.2.1)) x5 x6 (wrap .i64 (x7 + (1 : Int))))) (f9h1 x0 x1 x2 x3 x4 x5 x6 (wrap .i64 (x7 + (1 : Int)))))))))))) none)) none) none) (cond x1 (some ⟨[.dat tI (16 : Int)], []⟩) (cond x4 (some ⟨[.dat tI (16 : Int)], []⟩) (cond (refOk x0) (cond (decide (((List.length (orderOf x0) : Nat) : Int) > (2000 : Int))) (some ⟨[.dat tI (2 : Int)], []⟩) (some ⟨[.dat tI (0 : Int)], []⟩)) none)))) := hdEq (by kernel_rfl)
theorem f26_run (a0 : Bar) : I26.run ⟨[.dat tBar a0], []⟩ = (cond (a0.2.1 == 0) none (some ⟨[.dat tI (wrap .i64 (Int.tdiv (wrap .i64 (a0.1 * (192 : Int))) a0.2.1))], []⟩)) := (I26.run_eq _).trans (by kernel_rfl)
noncomputable def f36h0 (x0 : Int) (x1 : Int) : Option Fr := I36.hd 0 (mkF 15 [(0, .dat tI x0), (1, .dat tI x1)] [])
theorem f36_run (a0 : Int) (a1 : Int) : I36.run ⟨[.dat tI a0, .dat tI a1], []⟩ = (f36h0 a0 a1) := (I36.run_eq _).trans (by kernel_rfl)
theorem f36h0_eq (x0 : Int) (x1 : Int) : f36h0 x0 x1 = (cond (x1 != (0 : Int)) (cond (x1 == 0) none (f36h0 x1 (Int.tmod x0 x1))) (some ⟨[.dat tI (if x0 < (wrap .i64 (0 - x0)) then (wrap .i64 (0 - x0)) else x0)], []⟩)) := hdEq (by kernel_rfl)
theorem f27_run (a0 : Int) (a1 : Int) : I27.run ⟨[.dat tI a0, .dat tI a1], []⟩ = (cond ((divisor a0 a1) == 0) none (cond ((divisor a0 a1) == 0) none (some ⟨[.dat tFrac ((wrap .i64 (Int.tdiv a0 (divisor a0 a1))), (wrap .i64 (Int.tdiv a1 (divisor a0 a1))))], []⟩))) := (I27.run_eq _).trans (by kernel_rfl)
noncomputable def f11h0 (x0 : (List Bar)) (x1 : Int) (x2 : Int) (x3 : Int) (x4 : Int) (x5 : Int) (x6 : (List Int)) : Option Fr := I11.hd 0 (mkF 23 [(0, .dat (.slice tBar) x0), (2, .ptr 500 0), (3, .dat tI x1), (7, .slc 501), (8, .dat tI x2), (9, .dat tI x3)] [(500, .box [.dat tI x4, .dat tI x5]), (501, .arr tI x6)])
theorem f11_run (a0 : (List Bar)) : I11.run ⟨[.dat (.slice tBar) a0], []⟩ = (cond (refOk a0) (f11h0 a0 (0 : Int) ((List.length (orderOf a0) : Nat) : Int) (0 : Int) (0 : Int) (0 : Int) (orderOf a0)) none) := (I11.run_eq _).trans (by kernel_rfl)
theorem f11h0_eq (x0 : (List Bar)) (x1 : Int) (x2 : Int) (x3 : Int) (x4 : Int) (x5 : Int) (x6 : (List Int)) : f11h0 x0 x1 x2 x3 x4 x5 x6 = (cond (decide (x3 < x2)) (cond (decide ((0 : Int) ≤ x3)) (cond (decide (x3 < ((List.length x6 : Nat) : Int))) (cond (decide ((Int.toNat x3) < List.length x6)) (cond (decide ((0 : Int) ≤ (List.getD x6 (Int.toNat x3) (Tc.dflt tI)))) (cond (decide ((List.getD x6 (Int.toNat x3) (Tc.dflt tI)) < ((List.length x0 : Nat) : Int))) (cond ((List.getD x0 (Int.toNat (List.getD x6 (Int.toNat x3) (Tc.dflt tI))) (Tc.dflt tBar)).2.1 != 0) (f11h0 x0 (wrap .i64 (x1 + (barUnits (List.getD x0 (Int.toNat (List.getD x6 (Int.toNat x3) (Tc.dflt tI))) (Tc.dflt tBar))))) x2 (wrap .i64 (x3 + (1 : Int))) x4 x5 x6) none) none) none) none) none) none) (cond ((192 : Int) == 192) (some ⟨[.dat tFrac ((lowestR x1 (192 : Int)).1, (lowestR x1 (192 : Int)).2)], []⟩) none)) := hdEq (by kernel_rfl)
noncomputable def f12h0 (x0 : Int) (x1 : (List Bar)) (x2 : Int) (x3 : Int) (x4 : (List Frac)) : Option Fr := I12.hd 0 (mkF 24 [(3, .slc 500), (4, .dat tI x0), (7, .dat (.slice tBar) x1), (8, .dat tI x2), (9, .dat tI x3)] [(500, .arr tFrac x4)])
theorem f12_run (a0 : (List Bar)) : I12.run ⟨[.dat (.slice tBar) a0], []⟩ = (f12h0 (0 : Int) a0 ((List.length a0 : Nat) : Int) (0 : Int) []) := (I12.run_eq _).trans (by kernel_rfl)
theorem f12h0_eq (x0 : Int) (x1 : (List Bar)) (x2 : Int) (x3 : Int) (x4 : (List Frac)) : f12h0 x0 x1 x2 x3 x4 = (cond (decide (x3 < x2)) (cond (decide ((0 : Int) ≤ x3)) (cond (decide (x3 < ((List.length x1 : Nat) : Int))) (cond ((192 : Int) == 192) (cond (decide ((List.length x4 + List.length [(lowestR x0 (192 : Int))]) * 16 ≤ 140737488355328)) (cond (((List.getD x1 (Int.toNat x3) (Tc.dflt tBar)).1, ((List.getD x1 (Int.toNat x3) (Tc.dflt tBar)).2.1, ((List.getD x1 (Int.toNat x3) (Tc.dflt tBar)).2.2.1, ((List.getD x1 (Int.toNat x3) (Tc.dflt tBar)).2.2.2.1, (List.getD x1 (Int.toNat x3) (Tc.dflt tBar)).2.2.2.2)))).2.1 != 0) (f12h0 (wrap .i64 (x0 + (barUnits ((List.getD x1 (Int.toNat x3) (Tc.dflt tBar)).1, ((List.getD x1 (Int.toNat x3) (Tc.dflt tBar)).2.1, ((List.getD x1 (Int.toNat x3) (Tc.dflt tBar)).2.2.1, ((List.getD x1 (Int.toNat x3) (Tc.dflt tBar)).2.2.2.1, (List.getD x1 (Int.toNat x3) (Tc.dflt tBar)).2.2.2.2))))))) x1 x2 (wrap .i64 (x3 + (1 : Int))) (x4 ++ [(lowestR x0 (192 : Int))])) none) none) none) none) none) (some ⟨[.slc 0], [(0, .arr tFrac x4)]⟩)) := hdEq (by kernel_rfl)
noncomputable def f14h0 (x0 : (List Int)) (x1 : (List Int)) (x2 : Int) (x3 : Int) : Option Fr := I14.hd 0 (mkF 26 [(0, .dat (.slice tI) x0), (1, .dat (.slice tI) x1), (12, .dat tI x2), (13, .dat tI x3)] [])
theorem f14_run (a0 : (List Int)) (a1 : (List Int)) : I14.run ⟨[.dat (.slice tI) a0, .dat (.slice tI) a1], []⟩ = (cond (((List.length a0 : Nat) : Int) != ((List.length a1 : Nat) : Int)) (some ⟨[.dat .bool false], []⟩) (f14h0 a0 a1 ((List.length a0 : Nat) : Int) (0 : Int))) := (I14.run_eq _).trans (by kernel_rfl)
theorem f14h0_eq (x0 : (List Int)) (x1 : (List Int)) (x2 : Int) (x3 : Int) : f14h0 x0 x1 x2 x3 = (cond (decide (x3 < x2)) (cond (decide ((0 : Int) ≤ x3)) (cond (decide (x3 < ((List.length x0 : Nat) : Int))) (cond (decide ((0 : Int) ≤ x3)) (cond (decide (x3 < ((List.length x1 : Nat) : Int))) (cond ((List.getD x0 (Int.toNat x3) (Tc.dflt tI)) != (List.getD x1 (Int.toNat x3) (Tc.dflt tI))) (some ⟨[.dat .bool false], []⟩) (f14h0 x0 x1 x2 (wrap .i64 (x3 + (1 : Int))))) none) none) none) none) (some ⟨[.dat .bool true], []⟩)) := hdEq (by kernel_rfl)
noncomputable def f15h0 (x0 : (List Frac)) (x1 : (List Frac)) (x2 : Int) (x3 : Int) : Option Fr := I15.hd 0 (mkF 26 [(0, .dat (.slice tFrac) x0), (1, .dat (.slice tFrac) x1), (12, .dat tI x2), (13, .dat tI x3)] [])
theorem f15_run (a0 : (List Frac)) (a1 : (List Frac)) : I15.run ⟨[.dat (.slice tFrac) a0, .dat (.slice tFrac) a1], []⟩ = (cond (((List.length a0 : Nat) : Int) != ((List.length a1 : Nat) : Int)) (some ⟨[.dat .bool false], []⟩) (f15h0 a0 a1 ((List.length a0 : Nat) : Int) (0 : Int))) := (I15.run_eq _).trans (by kernel_rfl)
theorem f15h0_eq (x0 : (List Frac)) (x1 : (List Frac)) (x2 : Int) (x3 : Int) : f15h0 x0 x1 x2 x3 = (cond (decide (x3 < x2)) (cond (decide ((0 : Int) ≤ x3)) (cond (decide (x3 < ((List.length x0 : Nat) : Int))) (cond (decide ((0 : Int) ≤ x3)) (cond (decide (x3 < ((List.length x1 : Nat) : Int))) (cond (!(Tc.beq tFrac (List.getD x0 (Int.toNat x3) (Tc.dflt tFrac)) (List.getD x1 (Int.toNat x3) (Tc.dflt tFrac)))) (some ⟨[.dat .bool false], []⟩) (f15h0 x0 x1 x2 (wrap .i64 (x3 + (1 : Int))))) none) none) none) none) (some ⟨[.dat .bool true], []⟩)) := hdEq (by kernel_rfl)
theorem f16_run  : I16.run ⟨[], []⟩ = (cond (((pOrder [((1 : Int), ((4 : Int), ((2 : Int), ((0 : Int), true))))]).2) == (0 : Int)) (cond (decide (List.length ((pOrder [((1 : Int), ((4 : Int), ((2 : Int), ((0 : Int), true))))]).1) ≤ 1000000)) (some ⟨[.dat .bool (equalI ((pOrder [((1 : Int), ((4 : Int), ((2 : Int), ((0 : Int), true))))]).1) [(0 : Int), (0 : Int)])], []⟩) none) (some ⟨[.dat .bool false], []⟩)) := (I16.run_eq _).trans (by kernel_rfl)
noncomputable def f3h0 (x0 : (List Bar)) : Option Fr := I3.hd 0 (mkF 96 [(4, .slc 500)] [(500, .arr tBar x0)])
theorem f3_run (a0 : (List Int)) : I3.run ⟨[.dat (.slice tI) a0], []⟩ = (cond (atOk 2000 (0 : Int)) (cond (atOk 1 ((barsS a0 (0 : Int)).1)) (cond (next a0 ((barsS a0 (0 : Int)).1) (30 : Int) == 0) (f3h0 ((barsS a0 (0 : Int)).2)) (cond ((barsFault ((barsS a0 (0 : Int)).2)) == (0 : Int)) (cond (refOk ((barsS a0 (0 : Int)).2)) (cond (barsFault ((barsS a0 (0 : Int)).2) == 0) (cond (barsFault ((barsS a0 (0 : Int)).2) == 0) (cond ((checkBars ((barsS a0 (0 : Int)).2)) == (barsFault ((barsS a0 (0 : Int)).2))) (cond (((pOrder ((barsS a0 (0 : Int)).2)).2) == (barsFault ((barsS a0 (0 : Int)).2))) (cond (decide (List.length ((pOrder ((barsS a0 (0 : Int)).2)).1) ≤ 1000000)) (cond (equalI ((pOrder ((barsS a0 (0 : Int)).2)).1) (orderOf ((barsS a0 (0 : Int)).2))) (cond (((pLong ((barsS a0 (0 : Int)).2)).2) == (barsFault ((barsS a0 (0 : Int)).2))) (cond (Tc.beq tFrac (((pLong ((barsS a0 (0 : Int)).2)).1).1, ((pLong ((barsS a0 (0 : Int)).2)).1).2) ((longOf ((barsS a0 (0 : Int)).2)).1, (longOf ((barsS a0 (0 : Int)).2)).2)) (cond (((pBegins ((barsS a0 (0 : Int)).2)).2) == (barsFault ((barsS a0 (0 : Int)).2))) (cond (decide (List.length ((pBegins ((barsS a0 (0 : Int)).2)).1) ≤ 1000000)) (cond (equalF ((pBegins ((barsS a0 (0 : Int)).2)).1) (beginsOf ((barsS a0 (0 : Int)).2))) (some ⟨[.dat .bool true], []⟩) (some ⟨[.dat .bool false], []⟩)) none) (some ⟨[.dat .bool false], []⟩)) (some ⟨[.dat .bool false], []⟩)) (some ⟨[.dat .bool false], []⟩)) (some ⟨[.dat .bool false], []⟩)) none) (some ⟨[.dat .bool false], []⟩)) (some ⟨[.dat .bool false], []⟩)) none) none) none) (cond ((checkBars ((barsS a0 (0 : Int)).2)) == (barsFault ((barsS a0 (0 : Int)).2))) (cond (((pOrder ((barsS a0 (0 : Int)).2)).2) == (barsFault ((barsS a0 (0 : Int)).2))) (cond (decide (List.length ((pOrder ((barsS a0 (0 : Int)).2)).1) ≤ 1000000)) (cond (equalI ((pOrder ((barsS a0 (0 : Int)).2)).1) []) (cond (((pLong ((barsS a0 (0 : Int)).2)).2) == (barsFault ((barsS a0 (0 : Int)).2))) (cond (Tc.beq tFrac (((pLong ((barsS a0 (0 : Int)).2)).1).1, ((pLong ((barsS a0 (0 : Int)).2)).1).2) ((0 : Int), (0 : Int))) (cond (((pBegins ((barsS a0 (0 : Int)).2)).2) == (barsFault ((barsS a0 (0 : Int)).2))) (cond (decide (List.length ((pBegins ((barsS a0 (0 : Int)).2)).1) ≤ 1000000)) (cond (equalF ((pBegins ((barsS a0 (0 : Int)).2)).1) []) (some ⟨[.dat .bool true], []⟩) (some ⟨[.dat .bool false], []⟩)) none) (some ⟨[.dat .bool false], []⟩)) (some ⟨[.dat .bool false], []⟩)) (some ⟨[.dat .bool false], []⟩)) (some ⟨[.dat .bool false], []⟩)) none) (some ⟨[.dat .bool false], []⟩)) (some ⟨[.dat .bool false], []⟩)))) none) none) := (I3.run_eq _).trans (by kernel_rfl)
theorem f3h0_eq (x0 : (List Bar)) : f3h0 x0 = (cond (decide (((List.length x0 : Nat) : Int) > (0 : Int))) (cond (decide (((List.length x0 : Nat) : Int) < (297 : Int))) (cond (decide ((List.length x0 + List.length x0) * 40 ≤ 140737488355328)) (f3h0 (x0 ++ x0)) none) (cond ((barsFault x0) == (0 : Int)) (cond (refOk x0) (cond (barsFault x0 == 0) (cond (barsFault x0 == 0) (cond ((checkBars x0) == (barsFault x0)) (cond (((pOrder x0).2) == (barsFault x0)) (cond (decide (List.length ((pOrder x0).1) ≤ 1000000)) (cond (equalI ((pOrder x0).1) (orderOf x0)) (cond (((pLong x0).2) == (barsFault x0)) (cond (Tc.beq tFrac (((pLong x0).1).1, ((pLong x0).1).2) ((longOf x0).1, (longOf x0).2)) (cond (((pBegins x0).2) == (barsFault x0)) (cond (decide (List.length ((pBegins x0).1) ≤ 1000000)) (cond (equalF ((pBegins x0).1) (beginsOf x0)) (some ⟨[.dat .bool true], []⟩) (some ⟨[.dat .bool false], []⟩)) none) (some ⟨[.dat .bool false], []⟩)) (some ⟨[.dat .bool false], []⟩)) (some ⟨[.dat .bool false], []⟩)) (some ⟨[.dat .bool false], []⟩)) none) (some ⟨[.dat .bool false], []⟩)) (some ⟨[.dat .bool false], []⟩)) none) none) none) (cond ((checkBars x0) == (barsFault x0)) (cond (((pOrder x0).2) == (barsFault x0)) (cond (decide (List.length ((pOrder x0).1) ≤ 1000000)) (cond (equalI ((pOrder x0).1) []) (cond (((pLong x0).2) == (barsFault x0)) (cond (Tc.beq tFrac (((pLong x0).1).1, ((pLong x0).1).2) ((0 : Int), (0 : Int))) (cond (((pBegins x0).2) == (barsFault x0)) (cond (decide (List.length ((pBegins x0).1) ≤ 1000000)) (cond (equalF ((pBegins x0).1) []) (some ⟨[.dat .bool true], []⟩) (some ⟨[.dat .bool false], []⟩)) none) (some ⟨[.dat .bool false], []⟩)) (some ⟨[.dat .bool false], []⟩)) (some ⟨[.dat .bool false], []⟩)) (some ⟨[.dat .bool false], []⟩)) none) (some ⟨[.dat .bool false], []⟩)) (some ⟨[.dat .bool false], []⟩)))) (cond ((barsFault x0) == (0 : Int)) (cond (refOk x0) (cond (barsFault x0 == 0) (cond (barsFault x0 == 0) (cond ((checkBars x0) == (barsFault x0)) (cond (((pOrder x0).2) == (barsFault x0)) (cond (decide (List.length ((pOrder x0).1) ≤ 1000000)) (cond (equalI ((pOrder x0).1) (orderOf x0)) (cond (((pLong x0).2) == (barsFault x0)) (cond (Tc.beq tFrac (((pLong x0).1).1, ((pLong x0).1).2) ((longOf x0).1, (longOf x0).2)) (cond (((pBegins x0).2) == (barsFault x0)) (cond (decide (List.length ((pBegins x0).1) ≤ 1000000)) (cond (equalF ((pBegins x0).1) (beginsOf x0)) (some ⟨[.dat .bool true], []⟩) (some ⟨[.dat .bool false], []⟩)) none) (some ⟨[.dat .bool false], []⟩)) (some ⟨[.dat .bool false], []⟩)) (some ⟨[.dat .bool false], []⟩)) (some ⟨[.dat .bool false], []⟩)) none) (some ⟨[.dat .bool false], []⟩)) (some ⟨[.dat .bool false], []⟩)) none) none) none) (cond ((checkBars x0) == (barsFault x0)) (cond (((pOrder x0).2) == (barsFault x0)) (cond (decide (List.length ((pOrder x0).1) ≤ 1000000)) (cond (equalI ((pOrder x0).1) []) (cond (((pLong x0).2) == (barsFault x0)) (cond (Tc.beq tFrac (((pLong x0).1).1, ((pLong x0).1).2) ((0 : Int), (0 : Int))) (cond (((pBegins x0).2) == (barsFault x0)) (cond (decide (List.length ((pBegins x0).1) ≤ 1000000)) (cond (equalF ((pBegins x0).1) []) (some ⟨[.dat .bool true], []⟩) (some ⟨[.dat .bool false], []⟩)) none) (some ⟨[.dat .bool false], []⟩)) (some ⟨[.dat .bool false], []⟩)) (some ⟨[.dat .bool false], []⟩)) (some ⟨[.dat .bool false], []⟩)) none) (some ⟨[.dat .bool false], []⟩)) (some ⟨[.dat .bool false], []⟩)))) := hdEq (by kernel_rfl)
end Go.Ev.B

set_option linter.unusedVariables false
set_option linter.unusedSimpArgs false
namespace Go.Ev.B
open Go Go.Ev Go.Proofs
theorem mo : Try.prog.follows .mixedOrders = true := by kernel_rfl
theorem e0 : EnvOk Try.prog En0 := env_nil (by kernel_rfl)
def R33 : Prop := ∀ (a0 : Int) (a1 : Int), (true) = true → I33.run ⟨[.dat tI a0, .dat tI a1], []⟩ = some ⟨[.dat tI (below a0 a1)], []⟩
theorem sd33 (hE : EnvOk Try.prog En0) (h : R33) : EnvOk Try.prog En33 := env_add hE (pure_sound I33 hE mo Try.func33 rfl rfl (fun x hx => h x.1 x.2.1 hx))
def R18 : Prop := ∀ (L : (List Int)) (at_ : Int) (a0 : Int), (atOk 1 at_) = true → I18.run ⟨[.ptr 0 0, .dat tI a0], [(0, .box [.dat (.slice tI) L, .dat tI at_])]⟩ = some ⟨[.dat tI (next L at_ a0)], [(0, .box [.dat (.slice tI) L, .dat tI (nextAt at_)])]⟩
theorem sd18 (hE : EnvOk Try.prog En33) (h : R18) : EnvOk Try.prog En18 := env_add hE (meth_sound I18 hE mo Try.func18 rfl rfl (fun s x hx => h s.1 s.2.1 x.1 hx))
def R5 : Prop := ∀ (L : (List Int)) (at_ : Int) (a0 : Int), (atOk 1 at_) = true → I5.run ⟨[.ptr 0 0, .dat tI a0], [(0, .box [.dat (.slice tI) L, .dat tI at_])]⟩ = some ⟨[.dat .bool (next L at_ a0 == 0)], [(0, .box [.dat (.slice tI) L, .dat tI (nextAt at_)])]⟩
theorem sd5 (hE : EnvOk Try.prog En18) (h : R5) : EnvOk Try.prog En5 := env_add hE (meth_sound I5 hE mo Try.func5 rfl rfl (fun s x hx => h s.1 s.2.1 x.1 hx))
def R20 : Prop := ∀ (L : (List Int)) (at_ : Int) (a0 : (List Int)), (atOk 1 at_ && decide (0 < List.length a0) && decide (List.length a0 ≤ 1000)) = true → I20.run ⟨[.ptr 0 0, .dat (.slice tI) a0], [(0, .box [.dat (.slice tI) L, .dat tI at_])]⟩ = some ⟨[.dat tI (pick L at_ a0)], [(0, .box [.dat (.slice tI) L, .dat tI (nextAt at_)])]⟩
theorem sd20 (hE : EnvOk Try.prog En5) (h : R20) : EnvOk Try.prog En20 := env_add hE (meth_sound I20 hE mo Try.func20 rfl rfl (fun s x hx => h s.1 s.2.1 x.1 hx))
def R31 : Prop := ∀ (L : (List Int)) (at_ : Int), (atOk 8 at_) = true → I31.run ⟨[.ptr 0 0], [(0, .box [.ptr 1 0]), (1, .box [.dat (.slice tI) L, .dat tI at_])]⟩ = some ⟨[.dat tBar (rbar L at_)], [(0, .box [.ptr 1 0]), (1, .box [.dat (.slice tI) L, .dat tI (nextAt (nextAt at_))])]⟩
theorem sd31 (hE : EnvOk Try.prog En20) (h : R31) : EnvOk Try.prog En31 := env_add hE (clos_sound I31 hE mo Try.func31 rfl rfl (fun s hx => h s.1 s.2.1 hx))
def R32 : Prop := ∀ (L : (List Int)) (at_ : Int) (a0 : Int) (a1 : Int), (atOk 1 at_) = true → I32.run ⟨[.ptr 0 0, .dat tI a0, .dat tI a1], [(0, .box [.dat (.slice tI) L, .dat tI at_])]⟩ = some ⟨[.dat tI (rangeS L at_ a0 a1)], [(0, .box [.dat (.slice tI) L, .dat tI (rangeAt at_ a0 a1)])]⟩
theorem sd32 (hE : EnvOk Try.prog En31) (h : R32) : EnvOk Try.prog En32 := env_add hE (meth_sound I32 hE mo Try.func32 rfl rfl (fun s x hx => h s.1 s.2.1 x.1 x.2.1 hx))
def R17 : Prop := ∀ (L : (List Int)) (at_ : Int), (atOk 1000 at_) = true → I17.run ⟨[.ptr 0 0], [(0, .box [.dat (.slice tI) L, .dat tI at_])]⟩ = some ⟨[.slc 2], [(0, .box [.dat (.slice tI) L, .dat tI (rightBars L at_).1]), (2, .arr tBar (rightBars L at_).2)]⟩
theorem sd17 (hE : EnvOk Try.prog En32) (h : R17) : EnvOk Try.prog En17 := env_add hE (meth_sound I17 hE mo Try.func17 rfl rfl (fun s x hx => h s.1 s.2.1  hx))
def R19 : Prop := ∀ (L : (List Int)) (at_ : Int) (a0 : Int) (a1 : Int), (atOk 8 at_) = true → I19.run ⟨[.ptr 0 0, .dat tI a0, .dat tI a1], [(0, .box [.dat (.slice tI) L, .dat tI at_])]⟩ = some ⟨[.dat tI (oddS L at_ a0 a1).2], [(0, .box [.dat (.slice tI) L, .dat tI (oddS L at_ a0 a1).1])]⟩
theorem sd19 (hE : EnvOk Try.prog En17) (h : R19) : EnvOk Try.prog En19 := env_add hE (meth_sound I19 hE mo Try.func19 rfl rfl (fun s x hx => h s.1 s.2.1 x.1 x.2.1 hx))
def R4 : Prop := ∀ (L : (List Int)) (at_ : Int), (atOk 2000 at_) = true → I4.run ⟨[.ptr 0 0], [(0, .box [.dat (.slice tI) L, .dat tI at_])]⟩ = some ⟨[.slc 2], [(0, .box [.dat (.slice tI) L, .dat tI (barsS L at_).1]), (2, .arr tBar (barsS L at_).2)]⟩
theorem sd4 (hE : EnvOk Try.prog En19) (h : R4) : EnvOk Try.prog En4 := env_add hE (meth_sound I4 hE mo Try.func4 rfl rfl (fun s x hx => h s.1 s.2.1  hx))
def R38 : Prop := ∀ (a0 : Int) (a1 : Int) (a2 : Int), (true) = true → I38.run ⟨[.dat tI a0, .dat tI a1, .dat tI a2], []⟩ = some ⟨[.dat .bool (outside a0 a1 a2)], []⟩
theorem sd38 (hE : EnvOk Try.prog En4) (h : R38) : EnvOk Try.prog En38 := env_add hE (pure_sound I38 hE mo Try.func38 rfl rfl (fun x hx => h x.1 x.2.1 x.2.2.1 hx))
def R35 : Prop := ∀ (a0 : (List Int)) (a1 : Int), (decide (List.length a0 ≤ 1000000)) = true → I35.run ⟨[.dat (.slice tI) a0, .dat tI a1], []⟩ = some ⟨[.dat tI (indexI a0 a1)], []⟩
theorem sd35 (hE : EnvOk Try.prog En38) (h : R35) : EnvOk Try.prog En35 := env_add hE (pure_sound I35 hE mo Try.func35 rfl rfl (fun x hx => h x.1 x.2.1 hx))
def R25 : Prop := ∀ (a0 : (List Int)) (a1 : Int), (decide (List.length a0 ≤ 1000000)) = true → I25.run ⟨[.dat (.slice tI) a0, .dat tI a1], []⟩ = some ⟨[.dat .bool (containsI a0 a1)], []⟩
theorem sd25 (hE : EnvOk Try.prog En35) (h : R25) : EnvOk Try.prog En25 := env_add hE (pure_sound I25 hE mo Try.func25 rfl rfl (fun x hx => h x.1 x.2.1 hx))
def R39 : Prop := ∀ (a0 : Int), (true) = true → I39.run ⟨[.dat tI a0], []⟩ = some ⟨[.dat .bool (isUnit a0)], []⟩
theorem sd39 (hE : EnvOk Try.prog En25) (h : R39) : EnvOk Try.prog En39 := env_add hE (pure_sound I39 hE mo Try.func39 rfl rfl (fun x hx => h x.1 hx))
def R37 : Prop := ∀ (a0 : Bar), (true) = true → I37.run ⟨[.dat tBar a0], []⟩ = some ⟨[.dat tI (barFault a0)], []⟩
theorem sd37 (hE : EnvOk Try.prog En39) (h : R37) : EnvOk Try.prog En37 := env_add hE (pure_sound I37 hE mo Try.func37 rfl rfl (fun x hx => h x.1 hx))
def R28 : Prop := ∀ (a0 : (List Bar)), (decide (List.length a0 ≤ 300)) = true → I28.run ⟨[.dat (.slice tBar) a0], []⟩ = some ⟨[.dat tI (rulesFault a0)], []⟩
theorem sd28 (hE : EnvOk Try.prog En37) (h : R28) : EnvOk Try.prog En28 := env_add hE (pure_sound I28 hE mo Try.func28 rfl rfl (fun x hx => h x.1 hx))
def R29 : Prop := ∀ (a0 : (List Bar)), (decide (List.length a0 ≤ 300)) = true → I29.run ⟨[.dat (.slice tBar) a0], []⟩ = some ⟨[.slc 0, .dat .bool (repeats a0).2], [(0, .arr tRep (repeats a0).1)]⟩
theorem sd29 (hE : EnvOk Try.prog En28) (h : R29) : EnvOk Try.prog En29 := env_add hE (pure_sound I29 hE mo Try.func29 rfl rfl (fun x hx => h x.1 hx))
def R30 : Prop := ∀ (a0 : (List Bar)) (a1 : (List Rep)) (a2 : Int), (orderOk a0 a1 && a2 == 2000) = true → I30.run ⟨[.dat (.slice tBar) a0, .dat (.slice tRep) a1, .dat tI a2], []⟩ = some ⟨[.slc 0], [(0, .arr tI (order a0 a1 a2))]⟩
theorem sd30 (hE : EnvOk Try.prog En29) (h : R30) : EnvOk Try.prog En30 := env_add hE (pure_sound I30 hE mo Try.func30 rfl rfl (fun x hx => h x.1 x.2.1 x.2.2.1 hx))
def R13 : Prop := ∀ (a0 : (List Bar)), (true) = true → I13.run ⟨[.dat (.slice tBar) a0], []⟩ = some ⟨[.dat tI (checkBars a0)], []⟩
theorem sd13 (hE : EnvOk Try.prog En30) (h : R13) : EnvOk Try.prog En13 := env_add hE (pure_sound I13 hE mo Try.func13 rfl rfl (fun x hx => h x.1 hx))
def R21 : Prop := ∀ (a0 : (List Bar)), (checkBars a0 == 0) = true → I21.run ⟨[.dat (.slice tBar) a0], []⟩ = some ⟨[.slc 0], [(0, .arr tI (played a0))]⟩
theorem sd21 (hE : EnvOk Try.prog En13) (h : R21) : EnvOk Try.prog En21 := env_add hE (pure_sound I21 hE mo Try.func21 rfl rfl (fun x hx => h x.1 hx))
def R6 : Prop := ∀ (a0 : (List Bar)), (true) = true → I6.run ⟨[.dat (.slice tBar) a0], []⟩ = some ⟨[.slc 0, .dat tI (pOrder a0).2], [(0, .arr tI (pOrder a0).1)]⟩
theorem sd6 (hE : EnvOk Try.prog En21) (h : R6) : EnvOk Try.prog En6 := env_add hE (pure_sound I6 hE mo Try.func6 rfl rfl (fun x hx => h x.1 hx))
def R22 : Prop := ∀ (a0 : Bar), (a0.2.1 != 0) = true → I22.run ⟨[.dat tBar a0], []⟩ = some ⟨[.dat tI (long a0)], []⟩
theorem sd22 (hE : EnvOk Try.prog En6) (h : R22) : EnvOk Try.prog En22 := env_add hE (pure_sound I22 hE mo Try.func22 rfl rfl (fun x hx => h x.1 hx))
def R34 : Prop := ∀ (a0 : Int) (a1 : Int), (a1 == 192) = true → I34.run ⟨[.dat tI a0, .dat tI a1], []⟩ = some ⟨[.dat tFrac (lowest a0 a1)], []⟩
theorem sd34 (hE : EnvOk Try.prog En22) (h : R34) : EnvOk Try.prog En34 := env_add hE (pure_sound I34 hE mo Try.func34 rfl rfl (fun x hx => h x.1 x.2.1 hx))
def R23 : Prop := ∀ (a0 : Int), (true) = true → I23.run ⟨[.dat tI a0], []⟩ = some ⟨[.dat tFrac (lowest a0 192)], []⟩
theorem sd23 (hE : EnvOk Try.prog En34) (h : R23) : EnvOk Try.prog En23 := env_add hE (pure_sound I23 hE mo Try.func23 rfl rfl (fun x hx => h x.1 hx))
def R7 : Prop := ∀ (a0 : (List Bar)), (true) = true → I7.run ⟨[.dat (.slice tBar) a0], []⟩ = some ⟨[.dat tFrac (pLong a0).1, .dat tI (pLong a0).2], []⟩
theorem sd7 (hE : EnvOk Try.prog En23) (h : R7) : EnvOk Try.prog En7 := env_add hE (pure_sound I7 hE mo Try.func7 rfl rfl (fun x hx => h x.1 hx))
def R8 : Prop := ∀ (a0 : (List Bar)), (true) = true → I8.run ⟨[.dat (.slice tBar) a0], []⟩ = some ⟨[.slc 0, .dat tI (pBegins a0).2], [(0, .arr tFrac (pBegins a0).1)]⟩
theorem sd8 (hE : EnvOk Try.prog En7) (h : R8) : EnvOk Try.prog En8 := env_add hE (pure_sound I8 hE mo Try.func8 rfl rfl (fun x hx => h x.1 hx))
def R10 : Prop := ∀ (a0 : (List Bar)), (refOk a0) = true → I10.run ⟨[.dat (.slice tBar) a0], []⟩ = some ⟨[.slc 0], [(0, .arr tI (orderOf a0))]⟩
theorem sd10 (hE : EnvOk Try.prog En8) (h : R10) : EnvOk Try.prog En10 := env_add hE (pure_sound I10 hE mo Try.func10 rfl rfl (fun x hx => h x.1 hx))
def R24 : Prop := ∀ (a0 : Int) (a1 : Int) (a2 : Int), (true) = true → I24.run ⟨[.dat tI a0, .dat tI a1, .dat tI a2], []⟩ = some ⟨[.dat .bool (inR a0 a1 a2)], []⟩
theorem sd24 (hE : EnvOk Try.prog En10) (h : R24) : EnvOk Try.prog En24 := env_add hE (pure_sound I24 hE mo Try.func24 rfl rfl (fun x hx => h x.1 x.2.1 x.2.2.1 hx))
def R9 : Prop := ∀ (a0 : (List Bar)), (true) = true → I9.run ⟨[.dat (.slice tBar) a0], []⟩ = some ⟨[.dat tI (barsFault a0)], []⟩
theorem sd9 (hE : EnvOk Try.prog En24) (h : R9) : EnvOk Try.prog En9 := env_add hE (pure_sound I9 hE mo Try.func9 rfl rfl (fun x hx => h x.1 hx))
def R26 : Prop := ∀ (a0 : Bar), (a0.2.1 != 0) = true → I26.run ⟨[.dat tBar a0], []⟩ = some ⟨[.dat tI (barUnits a0)], []⟩
theorem sd26 (hE : EnvOk Try.prog En9) (h : R26) : EnvOk Try.prog En26 := env_add hE (pure_sound I26 hE mo Try.func26 rfl rfl (fun x hx => h x.1 hx))
def R36 : Prop := ∀ (a0 : Int) (a1 : Int), (true) = true → I36.run ⟨[.dat tI a0, .dat tI a1], []⟩ = some ⟨[.dat tI (divisor a0 a1)], []⟩
theorem sd36 (hE : EnvOk Try.prog En26) (h : R36) : EnvOk Try.prog En36 := env_add hE (pure_sound I36 hE mo Try.func36 rfl rfl (fun x hx => h x.1 x.2.1 hx))
def R27 : Prop := ∀ (a0 : Int) (a1 : Int), (a1 == 192) = true → I27.run ⟨[.dat tI a0, .dat tI a1], []⟩ = some ⟨[.dat tFrac (lowestR a0 a1)], []⟩
theorem sd27 (hE : EnvOk Try.prog En36) (h : R27) : EnvOk Try.prog En27 := env_add hE (pure_sound I27 hE mo Try.func27 rfl rfl (fun x hx => h x.1 x.2.1 hx))
def R11 : Prop := ∀ (a0 : (List Bar)), (barsFault a0 == 0) = true → I11.run ⟨[.dat (.slice tBar) a0], []⟩ = some ⟨[.dat tFrac (longOf a0)], []⟩
theorem sd11 (hE : EnvOk Try.prog En27) (h : R11) : EnvOk Try.prog En11 := env_add hE (pure_sound I11 hE mo Try.func11 rfl rfl (fun x hx => h x.1 hx))
def R12 : Prop := ∀ (a0 : (List Bar)), (barsFault a0 == 0) = true → I12.run ⟨[.dat (.slice tBar) a0], []⟩ = some ⟨[.slc 0], [(0, .arr tFrac (beginsOf a0))]⟩
theorem sd12 (hE : EnvOk Try.prog En11) (h : R12) : EnvOk Try.prog En12 := env_add hE (pure_sound I12 hE mo Try.func12 rfl rfl (fun x hx => h x.1 hx))
def R14 : Prop := ∀ (a0 : (List Int)) (a1 : (List Int)), (decide (List.length a0 ≤ 1000000)) = true → I14.run ⟨[.dat (.slice tI) a0, .dat (.slice tI) a1], []⟩ = some ⟨[.dat .bool (equalI a0 a1)], []⟩
theorem sd14 (hE : EnvOk Try.prog En12) (h : R14) : EnvOk Try.prog En14 := env_add hE (pure_sound I14 hE mo Try.func14 rfl rfl (fun x hx => h x.1 x.2.1 hx))
def R15 : Prop := ∀ (a0 : (List Frac)) (a1 : (List Frac)), (decide (List.length a0 ≤ 1000000)) = true → I15.run ⟨[.dat (.slice tFrac) a0, .dat (.slice tFrac) a1], []⟩ = some ⟨[.dat .bool (equalF a0 a1)], []⟩
theorem sd15 (hE : EnvOk Try.prog En14) (h : R15) : EnvOk Try.prog En15 := env_add hE (pure_sound I15 hE mo Try.func15 rfl rfl (fun x hx => h x.1 x.2.1 hx))
def R16 : Prop := (true) = true → I16.run ⟨[], []⟩ = some ⟨[.dat .bool true], []⟩
theorem sd16 (hE : EnvOk Try.prog En15) (h : R16) : EnvOk Try.prog En16 := env_add hE (pure_sound I16 hE mo Try.func16 rfl rfl (fun x hx => h  hx))
def R3 : Prop := ∀ (a0 : (List Int)), (true) = true → I3.run ⟨[.dat (.slice tI) a0], []⟩ = some ⟨[.dat .bool true], []⟩
theorem law (hE : EnvOk Try.prog En16) (h : R3) : Sound Try.prog 3 S3 := (show Sound Try.prog 3 S3 ∧ Enters Try.prog 3 from pure_sound I3 hE mo Try.func3 rfl rfl (fun x hx => h x.1 hx)).1
end Go.Ev.B

set_option linter.unusedVariables false
set_option linter.unusedSimpArgs false
namespace Go.Ev.B
open Go Go.Ev Go.Proofs
theorem r33 : R33 := by
  intro a0 a1 _
  rw [f33_run]
  unfold below
  by_cases h1 : a1 < 1
  · simp [h1]
  · have h0 : (a1 == 0) = false := by simp; omega
    by_cases h2 : a0.tmod a1 < 0 <;> simp [h1, h0, h2]

theorem atOk_iff {k a : Int} : atOk k a = true ↔ 0 ≤ a ∧ a + k ≤ 1099511627776 := by simp [atOk]

theorem nextAt_eq {k a : Int} (h : atOk k a = true) (hk : 0 ≤ k) : nextAt a = a + 1 := by
  rw [atOk_iff] at h
  unfold nextAt
  exact wrap_in (by omega) (by omega)

theorem r18 : R18 := by
  intro L at_ a0 h
  rw [f18_run]
  have h1 := atOk_iff.1 h
  have e1 : wrap .i64 (at_ + 1) = at_ + 1 := wrap_in (by omega) (by omega)
  have e2 : wrap .i64 (at_ + 1 - 1) = at_ := by rw [wrap_in (by omega) (by omega)]; omega
  unfold next rawNext nextAt
  by_cases h0 : L = []
  · subst h0; simp
  · have hl : 0 < L.length := List.length_pos_iff.2 h0
    have hne : ((L.length : Int) == 0) = false := by simp; omega
    have ht0 : decide ((0 : Int) ≤ Int.tmod at_ L.length) = true := by simp; exact Int.tmod_nonneg _ h1.1
    have ht1 : decide (Int.tmod at_ L.length < L.length) = true := by simp; exact Int.tmod_lt_of_pos _ (by omega)
    simp only [hne, cond_false, e1, e2, ht0, ht1, cond_true]

theorem below_range {x n : Int} (h1 : 1 ≤ n) (h2 : n ≤ 4611686018427387904) : 0 ≤ below x n ∧ below x n < n := by
  unfold below
  have hlt : decide (n < 1) = false := by simp; omega
  have h3 := Int.tmod_lt_of_pos x (show 0 < n by omega)
  have h4 : -n < x.tmod n := Int.lt_tmod_of_pos x (by omega)
  rw [hlt, cond_false]
  by_cases h : x.tmod n < 0
  · rw [condT (by simpa using h), wrap_in (by omega) (by omega)]; omega
  · rw [condF (by simpa using h)]; omega

theorem next_range (L : List Int) (at_ : Int) {n : Int} (h1 : 1 ≤ n) (h2 : n ≤ 4611686018427387904) : 0 ≤ next L at_ n ∧ next L at_ n < n := below_range h1 h2

theorem r5 : R5 := by
  intro L at_ a0 h
  rw [f5_run, h]; rfl

theorem r20 : R20 := by
  intro L at_ a0 h
  simp only [Bool.and_eq_true, decide_eq_true_eq] at h
  obtain ⟨⟨h1, h2⟩, h3⟩ := h
  have hr := next_range L at_ (n := (a0.length : Int)) (by omega) (by omega)
  rw [f20_run, h1]
  have q1 : decide ((0 : Int) ≤ next L at_ a0.length) = true := by simpa using hr.1
  have q2 : decide (next L at_ a0.length < a0.length) = true := by simpa using hr.2
  rw [q1, q2]; rfl

theorem r31 : R31 := by
  intro L at_ h
  have h1 := atOk_iff.1 h
  rw [f31_run]
  have q1 : atOk 1 at_ = true := atOk_iff.2 (by omega)
  have e1 := nextAt_eq q1 (by omega)
  have q2 : atOk 1 (nextAt at_) = true := atOk_iff.2 (by omega)
  rw [q1, q2]; rfl

theorem r32 : R32 := by
  intro L at_ a0 a1 h
  rw [f32_run, h]
  unfold rangeS rangeAt
  by_cases hc : a1 < a0 <;> simp [hc]

theorem r19 : R19 := by
  intro L at_ a0 a1 h
  have h1 := atOk_iff.1 h
  rw [f19_run]
  have q1 : atOk 1 at_ = true := atOk_iff.2 (by omega)
  have e1 := nextAt_eq q1 (by omega)
  have q2 : atOk 1 (nextAt at_) = true := atOk_iff.2 (by omega)
  rw [q1, q2]
  unfold oddS
  cases next L at_ 12 == 0 <;> rfl

theorem r38 : R38 := by
  intro a0 a1 a2 _
  rw [f38_run]
  unfold outside
  cases decide (a0 < a1) <;> rfl

theorem r24 : R24 := by
  intro a0 a1 a2 _
  rw [f24_run]
  unfold inR
  cases decide (a1 ≤ a0) <;> rfl

theorem r22 : R22 := by
  intro a0 h
  rw [f22_run, condF (by simpa using h)]; rfl

theorem r26 : R26 := by
  intro a0 h
  rw [f26_run, condF (by simpa using h)]; rfl

theorem idx_run (a : List Int) (x : Int) (ha : a.length ≤ 1000000) : ∀ (k i : Nat), i + k = a.length → f35h0 a x a.length i = some ⟨[.dat tI (idxGo x (a.drop i) i)], []⟩ := by
  intro k
  induction k with
  | zero =>
    intro i hi
    rw [f35h0_eq, dlt_not (by omega), dnil (by omega)]; rfl
  | succ k ih =>
    intro i hi
    have hlt : i < a.length := by omega
    rw [f35h0_eq, dlt hlt, dle0, getN _ _ _ hlt, dcons hlt, wsucc (by omega), ih (i + 1) (by omega)]
    simp only [cond_true, idxGo]
    cases x == a[i] <;> rfl

theorem r35 : R35 := by
  intro a0 a1 h
  rw [f35_run]
  exact idx_run a0 a1 (by simpa using h) a0.length 0 (by omega)

theorem r25 : R25 := by
  intro a0 a1 h
  rw [f25_run, h]; rfl

theorem r39 : R39 := by
  intro a0 _
  rw [f39_run]; rfl

theorem r37 : R37 := by
  intro a0 _
  rw [f37_run]
  unfold barFault
  cases outside a0.1 1 16 <;> cases isUnit a0.2.1 <;> cases a0.2.2.1 != 0 <;> cases outside a0.2.2.1 2 9 <;> cases outside a0.2.2.2.1 0 9 <;> rfl

end Go.Ev.B

set_option linter.unusedVariables false
set_option linter.unusedSimpArgs false
namespace Go.Ev.B
open Go Go.Ev Go.Proofs
theorem rules_run (a : List Bar) (ha : a.length ≤ 300) : ∀ (k i : Nat) (op : Bool) (prev : Int), i + k = a.length → (op = true → ∃ h : i - 1 < a.length, 1 ≤ i ∧ prev = (a[i - 1]).2.2.2.1) →
    f28h0 a op a a.length i = some ⟨[.dat tI (rulesGo op prev (a.drop i))], []⟩ := by
  intro k
  induction k with
  | zero =>
    intro i op prev hi hp
    rw [f28h0_eq, dlt_not (by omega), dnil (by omega)]; rfl
  | succ k ih =>
    intro i op prev hi hp
    have hlt : i < a.length := by omega
    have hnext : ∀ op' : Bool, f28h0 a op' a a.length ((i + 1 : Nat) : Int) = some ⟨[.dat tI (rulesGo op' (a[i]).2.2.2.1 (a.drop (i + 1)))], []⟩ := fun op' =>
      ih (i + 1) op' _ (by omega) (fun _ => ⟨by simpa using hlt, by omega, by simp⟩)
    rw [f28h0_eq, dlt hlt, dle0, getN _ _ _ hlt, dcons hlt, wsucc (by omega)]
    have hpre : op = true → cond (decide ((0 : Int) ≤ wrap .i64 ((i : Int) - 1))) (cond (decide (wrap .i64 ((i : Int) - 1) < (a.length : Int))) true false) false = true ∧
        (List.getD a (Int.toNat (wrap .i64 ((i : Int) - 1))) (Tc.dflt tBar)).2.2.2.1 = prev := by
      intro ho
      obtain ⟨h1, h2, h3⟩ := hp ho
      have e : wrap .i64 ((i : Int) - 1) = ((i - 1 : Nat) : Int) := by rw [wrap_in (by omega) (by omega)]; omega
      rw [e, dle0, dlt h1, getN _ _ _ h1]
      exact ⟨rfl, h3.symm⟩
    simp only [rulesGo]
    generalize a[i] = x at *
    have hx : (x.1, x.2.1, x.2.2.1, x.2.2.2.1, x.2.2.2.2) = x := rfl
    simp only [hx, cond_true]
    cases hb : barFault x != 0
    · simp only [cond_false]
      cases ho : op with
      | true =>
        obtain ⟨h1, h2⟩ := hpre ho
        rw [h2]
        have h1a : decide ((0 : Int) ≤ wrap .i64 ((i : Int) - 1)) = true := by
          cases h : decide ((0 : Int) ≤ wrap .i64 ((i : Int) - 1)) with
          | true => rfl
          | false => rw [h] at h1; cases h1
        have h1b : decide (wrap .i64 ((i : Int) - 1) < (a.length : Int)) = true := by
          cases h : decide (wrap .i64 ((i : Int) - 1) < (a.length : Int)) with
          | true => rfl
          | false => rw [h1a, h] at h1; cases h1
        simp only [h1a, h1b, cond_true, hnext]
        cases x.2.2.2.2 <;> cases x.2.2.1 != 0 <;> cases x.2.2.2.1 != 0 <;> cases decide (x.2.2.2.1 < prev) <;> cases x.2.2.1 == 0 <;> rfl
      | false =>
        simp only [cond_true, cond_false, hnext]
        cases x.2.2.2.2 <;> cases x.2.2.1 != 0 <;> cases x.2.2.2.1 != 0 <;> cases x.2.2.1 == 0 <;> rfl
    · rfl

theorem r28 : R28 := by
  intro a0 h
  rw [f28_run]
  exact rules_run a0 (by simpa using h) a0.length 0 false 0 (by omega) (by simp)

/-- What is known of rows of bars. -/
def RepIn (n : Nat) (r : Rep) : Prop := 0 ≤ r.1 ∧ r.1 ≤ r.2.1 ∧ r.2.1 ≤ n

theorem repGo_in (n : Nat) : ∀ (l : List Bar) (i : Nat) (op : Int) (out : List Rep), i + l.length = n → op ≤ i → (∀ r ∈ out, RepIn n r) → ∀ r ∈ (repGo i op out l).1, RepIn n r
  | [], i, op, out, hi, ho, h => h
  | x :: l, i, op, out, hi, ho, h => by
    simp only [repGo]
    have hc : cond x.2.2.2.2 (i : Int) op ≤ i := by cases x.2.2.2.2 <;> simp [ho]
    have e : ((i : Int) + 1) = ((i + 1 : Nat) : Int) := by simp
    simp at hi
    generalize cond x.2.2.2.2 (i : Int) op = o at *
    rw [e]
    cases h1 : decide (o < 0)
    · have ho0 : 0 ≤ o := by simpa using h1
      simp only [cond_false]
      cases h2 : decide (x.2.2.1 > 0)
      · exact repGo_in n l (i + 1) _ _ (by omega) (by omega) h
      · refine repGo_in n l (i + 1) _ _ (by omega) (by omega) fun r hr => ?_
        rcases List.mem_append.1 hr with hr | hr
        · exact h r hr
        · simp at hr; subst hr; exact ⟨ho0, by simp; omega, by simp; omega⟩
    · refine repGo_in n l (i + 1) _ _ (by omega) (by omega) fun r hr => ?_
      rcases List.mem_append.1 hr with hr | hr
      · exact h r hr
      · simp at hr; subst hr; exact ⟨by simp, by simp; omega, by simp; omega⟩

theorem repGo_len : ∀ (l : List Bar) (i : Int) (op : Int) (out : List Rep), (repGo i op out l).1.length ≤ out.length + l.length
  | [], i, op, out => by simp [repGo]
  | x :: l, i, op, out => by
    simp only [repGo]
    cases decide (cond x.2.2.2.2 i op < 0)
    · simp only [cond_false]
      cases decide (x.2.2.1 > 0)
      · have := repGo_len l (i + 1) (cond x.2.2.2.2 i op) out; simp; omega
      · have := repGo_len l (i + 1) (-1) (out ++ [(cond x.2.2.2.2 i op, i + 1, x.2.2.1)]); simp at this ⊢; omega
    · have := repGo_len l (i + 1) (cond x.2.2.2.2 i op) (out ++ [(i, i + 1, 1)]); simp at this ⊢; omega

theorem rep_run0 (a : List Bar) (ha : a.length ≤ 300) : ∀ (k i : Nat) (op : Int) (out : List Rep), i + k = a.length → out.length ≤ i →
    f29h0 a op a a.length i out = f29h2 a (repGo i op out (a.drop i)).2 (repGo i op out (a.drop i)).1.length 0 (repGo i op out (a.drop i)).1 := by
  intro k
  induction k with
  | zero =>
    intro i op out hi ho
    rw [f29h0_eq, dlt_not (by omega), dnil (by omega)]; rfl
  | succ k ih =>
    intro i op out hi ho
    have hlt : i < a.length := by omega
    have hg : ∀ (r : Rep) (q : Nat), decide ((out.length + List.length [r]) * 24 ≤ 140737488355328) = true := fun r q => by simp; omega
    rw [f29h0_eq, dlt hlt, dle0, getN _ _ _ hlt, dcons hlt, wsucc (by omega)]
    simp only [cond_true, repGo, hg _ 0]
    have e : ((i + 1 : Nat) : Int) = (i : Int) + 1 := by simp
    have hn : ∀ (op : Int) (out' : List Rep), out'.length ≤ i + 1 → f29h0 a op a a.length ((i : Int) + 1) out' = f29h2 a (repGo ((i : Int) + 1) op out' (a.drop (i + 1))).2 (repGo ((i : Int) + 1) op out' (a.drop (i + 1))).1.length 0 (repGo ((i : Int) + 1) op out' (a.drop (i + 1))).1 :=
      fun op out' h => by have := ih (i + 1) op out' (by omega) h; rw [e] at this; exact this
    have hi0 : decide ((i : Int) < 0) = false := by simp
    generalize a[i] = x at *
    rw [e]
    cases x.2.2.2.2
    · simp only [cond_false, hi0]
      cases decide (op < 0)
      · simp only [cond_false]
        cases decide (x.2.2.1 > 0)
        · simp only [cond_false]; rw [hn _ _ (by omega)]
        · simp only [cond_true]; rw [hn _ _ (by simp; omega)]
      · simp only [cond_true]; rw [hn _ _ (by simp; omega)]
    · simp only [cond_true, hi0, cond_false]
      cases decide (x.2.2.1 > 0)
      · simp only [cond_false]; rw [hn _ _ (by omega)]
      · simp only [cond_true]; rw [hn _ _ (by simp; omega)]

theorem rep_run4 (a : List Bar) (op : Int) (n2 j : Int) (out : List Rep) (r : Rep) (seg : List Bar) (hs : seg.length ≤ 300) : ∀ (k i : Nat), i + k = seg.length →
    f29h4 a op n2 j seg seg.length i out r.1 r.2.1 r.2.2 = cond ((seg.drop i).any fun x => decide (r.2.2 > 1) && decide (x.2.2.2.1 > r.2.2)) (some ⟨[.slc 0, .dat .bool false], [(0, .arr tRep [])]⟩) (f29h2 a op n2 (wrap .i64 (j + 1)) out) := by
  intro k
  induction k with
  | zero =>
    intro i hi
    rw [f29h4_eq, dlt_not (by omega), dnil (by omega)]; rfl
  | succ k ih =>
    intro i hi
    have hlt : i < seg.length := by omega
    rw [f29h4_eq, dlt hlt, dle0, getN _ _ _ hlt, dcons hlt, wsucc (by omega), ih (i + 1) (by omega)]
    simp only [cond_true, List.any_cons]
    cases decide (r.2.2 > 1) <;> cases decide ((seg[i]).2.2.2.1 > r.2.2) <;> rfl

theorem rep_run2 (a : List Bar) (ha : a.length ≤ 300) (op : Int) (out : List Rep) (ho : out.length ≤ 300) (hr : ∀ r ∈ out, RepIn a.length r) : ∀ (k i : Nat), i + k = out.length →
    f29h2 a op out.length i out = cond ((out.drop i).any (repBad a)) (some ⟨[.slc 0, .dat .bool false], [(0, .arr tRep [])]⟩) (some ⟨[.slc 0, .dat .bool (decide (op < 0))], [(0, .arr tRep out)]⟩) := by
  intro k
  induction k with
  | zero =>
    intro i hi
    rw [f29h2_eq, dlt_not (by omega), dnil (xs := out) (by omega)]; rfl
  | succ k ih =>
    intro i hi
    have hlt : i < out.length := by omega
    obtain ⟨h1, h2, h3⟩ := hr _ (List.getElem_mem hlt)
    rw [f29h2_eq, dlt hlt, dle0, getN _ _ _ hlt, dcons hlt]
    have q0 : decide ((Int.toNat (i : Int)) < out.length) = true := by simpa using hlt
    generalize hr0 : out[i] = r at *
    have q1 : decide ((0 : Int) ≤ r.1) = true := by simpa using h1
    have q2 : decide (r.1 ≤ r.2.1) = true := by simpa using h2
    have q3 : decide (r.2.1 ≤ (a.length : Int)) = true := by simpa using h3
    simp only [q0, q1, q2, q3, cond_true]
    have hseg := rep_run4 a op out.length i out r ((a.take r.2.1.toNat).drop r.1.toNat) (by simp; omega) ((a.take r.2.1.toNat).drop r.1.toNat).length 0 (by omega)
    simp only [Int.ofNat_zero, Int.cast_ofNat_Int] at hseg
    rw [hseg, wsucc (by omega), ih (i + 1) (by omega), List.drop_zero, List.any_cons]
    unfold repBad
    cases (List.drop r.1.toNat (List.take r.2.1.toNat a)).any fun x => decide (r.2.2 > 1) && decide (x.2.2.2.1 > r.2.2) <;> rfl

theorem r29 : R29 := by
  intro a0 h
  have ha : a0.length ≤ 300 := by simpa using h
  rw [f29_run]
  have h0 := rep_run0 a0 ha a0.length 0 (-1) [] (by omega) (by simp)
  rw [show ((0 : Nat) : Int) = 0 from rfl] at h0
  have hlen := repGo_len a0 0 (-1) []
  have hin := repGo_in a0.length a0 0 (-1) [] (by omega) (by simp) (by simp)
  rw [show ((0 : Nat) : Int) = 0 from rfl] at hin
  rw [h0, List.drop_zero]
  have h2 := rep_run2 a0 ha (repGo 0 (-1) [] a0).2 (repGo 0 (-1) [] a0).1 (by simp at hlen; omega) hin (repGo 0 (-1) [] a0).1.length 0 (by omega)
  rw [show ((0 : Nat) : Int) = 0 from rfl] at h2
  rw [h2, List.drop_zero]
  unfold repeats
  cases (repGo 0 (-1) [] a0).1.any (repBad a0) <;> rfl

end Go.Ev.B

set_option linter.unusedVariables false
set_option linter.unusedSimpArgs false
namespace Go.Ev.B
open Go Go.Ev Go.Proofs
theorem ordI_len (b : List Bar) (time : Int) : ∀ (k : Nat) (i : Int) (out : List Int), out.length ≤ 2001 → (ordI b time 2000 k i out).length ≤ 2001
  | 0, i, out, h => h
  | k + 1, i, out, h => by
    simp only [ordI]
    cases hc : decide ((out.length : Int) ≤ 2000)
    · exact h
    · have : out.length ≤ 2000 := by have := of_decide_eq_true hc; omega
      refine ordI_len b time k _ _ ?_
      cases (b.getD i.toNat (Tc.dflt tBar)).2.2.2.1 == 0 || (b.getD i.toNat (Tc.dflt tBar)).2.2.2.1 == time
      · simp; omega
      · simp; omega

theorem ord_run4 (b : List Bar) (hb : b.length ≤ 300) (l : List Rep) (n j time : Int) (r : Rep) (hr : r.2.1 ≤ b.length) : ∀ (k i : Nat) (out : List Int), ((i + k : Nat) : Int) = r.2.1 → out.length ≤ 2001 →
    f30h4 b 2000 time i l n j out r.1 r.2.1 r.2.2 = f30h2 b 2000 (wrap .i64 (time + 1)) l n j (ordI b time 2000 k i out) r.1 r.2.1 r.2.2 := by
  intro k
  induction k with
  | zero =>
    intro i out hi ho
    have : decide ((i : Int) < r.2.1) = false := by simp; omega
    rw [f30h4_eq, this]; rfl
  | succ k ih =>
    intro i out hi ho
    have h1 : decide ((i : Int) < r.2.1) = true := by simp; omega
    have hlt : i < b.length := by omega
    rw [f30h4_eq, h1, dle0, dlt hlt]
    simp only [cond_true, ordI]
    have hg : decide ((out.length + List.length [(i : Int)]) * 8 ≤ 140737488355328) = true := by simp; omega
    rw [hg, wsucc (by omega)]
    have e : ((i : Int) + 1) = ((i + 1 : Nat) : Int) := by simp
    rw [e]
    have hn : ∀ out' : List Int, out'.length ≤ 2001 → f30h4 b 2000 time ((i + 1 : Nat) : Int) l n j out' r.1 r.2.1 r.2.2 = f30h2 b 2000 (wrap .i64 (time + 1)) l n j (ordI b time 2000 k ((i + 1 : Nat) : Int) out') r.1 r.2.1 r.2.2 :=
      fun out' h => ih (i + 1) out' (by rw [← hi]; congr 1; omega) h
    cases hc : decide ((out.length : Int) ≤ 2000)
    · rfl
    · have : out.length ≤ 2000 := by have := of_decide_eq_true hc; omega
      simp only [cond_true]
      rw [hn _ (by simp; omega), hn _ (by omega)]
      cases (List.getD b (Int.toNat (i : Int)) (Tc.dflt tBar)).2.2.2.1 == 0 <;> cases (List.getD b (Int.toNat (i : Int)) (Tc.dflt tBar)).2.2.2.1 == time <;> rfl

theorem ordT_len (b : List Bar) (from_ to_ : Int) : ∀ (k : Nat) (time : Int) (out : List Int), out.length ≤ 2001 → (ordT b 2000 from_ to_ k time out).length ≤ 2001
  | 0, _, _, h => h
  | k + 1, time, out, h => ordT_len b from_ to_ k _ _ (ordI_len b time _ _ _ h)

theorem ord_run2 (b : List Bar) (hb : b.length ≤ 300) (l : List Rep) (n j : Int) (r : Rep) (h1 : 0 ≤ r.1) (h2 : r.1 ≤ r.2.1) (h3 : r.2.1 ≤ b.length) (h4 : r.2.2 ≤ 9) : ∀ (k t : Nat) (out : List Int), ((t + k : Nat) : Int) = r.2.2 + 1 → out.length ≤ 2001 →
    f30h2 b 2000 t l n j out r.1 r.2.1 r.2.2 = f30h0 b 2000 l n (wrap .i64 (j + 1)) (ordT b 2000 r.1 r.2.1 k t out) := by
  intro k
  induction k with
  | zero =>
    intro t out ht ho
    have : decide ((t : Int) ≤ r.2.2) = false := by simp; omega
    rw [f30h2_eq, this]; rfl
  | succ k ih =>
    intro t out ht ho
    have : decide ((t : Int) ≤ r.2.2) = true := by simp; omega
    rw [f30h2_eq, this]
    simp only [cond_true, ordT]
    have := ord_run4 b hb l n j t r h3 (r.2.1 - r.1).toNat r.1.toNat out (by omega) ho
    rw [show ((r.1.toNat : Nat) : Int) = r.1 by omega] at this
    rw [this, wsucc (by omega), ih (t + 1) _ (by rw [← ht]; congr 1; omega) (ordI_len b t _ _ _ ho)]
    rw [show ((t + 1 : Nat) : Int) = (t : Int) + 1 by simp]

theorem orderOk_spec {b : List Bar} {l : List Rep} (h : orderOk b l = true) : b.length ≤ 300 ∧ l.length ≤ 300 ∧ ∀ r ∈ l, 0 ≤ r.1 ∧ r.1 ≤ r.2.1 ∧ r.2.1 ≤ b.length ∧ 0 ≤ r.2.2 ∧ r.2.2 ≤ 9 := by
  simp only [orderOk, Bool.and_eq_true, List.all_eq_true, decide_eq_true_eq] at h
  obtain ⟨⟨h1, h2⟩, h3⟩ := h
  exact ⟨h1, h2, fun r hr => by have := h3 r hr; omega⟩

theorem ord_run0 (b : List Bar) (l : List Rep) (h : orderOk b l = true) : ∀ (k j : Nat) (out : List Int), j + k = l.length → out.length ≤ 2001 →
    f30h0 b 2000 l l.length j out = some ⟨[.slc 0], [(0, .arr tI (ordR b 2000 (l.drop j) out))]⟩ := by
  obtain ⟨hb, hl, hr⟩ := orderOk_spec h
  intro k
  induction k with
  | zero =>
    intro j out hj ho
    rw [f30h0_eq, dlt_not (by omega), dnil (xs := l) (by omega)]; rfl
  | succ k ih =>
    intro j out hj ho
    have hlt : j < l.length := by omega
    obtain ⟨h1, h2, h3, h4, h5⟩ := hr _ (List.getElem_mem hlt)
    rw [f30h0_eq, dlt hlt, dle0, getN _ _ _ hlt, dcons hlt]
    generalize l[j] = r at *
    simp only [cond_true, ordR]
    have := ord_run2 b hb l l.length j r h1 h2 h3 h5 r.2.2.toNat 1 out (by omega) ho
    rw [show ((1 : Nat) : Int) = 1 from rfl] at this
    rw [this, wsucc (by omega), ih (j + 1) _ (by omega) (ordT_len b _ _ _ _ _ ho)]

theorem r30 : R30 := by
  intro a0 a1 a2 h
  simp only [Bool.and_eq_true, beq_iff_eq] at h
  obtain ⟨h, rfl⟩ := h
  rw [f30_run]
  have := ord_run0 a0 a1 h a1.length 0 [] (by omega) (by simp)
  rw [show ((0 : Nat) : Int) = 0 from rfl] at this
  exact this

/-! ### rules -/
theorem barFault_ok {x : Bar} (h : barFault x = 0) : 1 ≤ x.1 ∧ x.1 ≤ 16 ∧ (x.2.1 = 1 ∨ x.2.1 = 2 ∨ x.2.1 = 4 ∨ x.2.1 = 8 ∨ x.2.1 = 16) ∧ (x.2.2.1 = 0 ∨ 2 ≤ x.2.2.1 ∧ x.2.2.1 ≤ 9) ∧ 0 ≤ x.2.2.2.1 ∧ x.2.2.2.1 ≤ 9 := by
  unfold barFault at h
  cases hc : (outside x.1 1 16 || !isUnit x.2.1 || (x.2.2.1 != 0 && outside x.2.2.1 2 9) || outside x.2.2.2.1 0 9) with
  | true => rw [hc] at h; cases h
  | false =>
    simp only [Bool.or_eq_false_iff, Bool.and_eq_false_iff, outside, decide_eq_false_iff_not, Bool.not_eq_false', bne_eq_false_iff_eq] at hc
    obtain ⟨⟨⟨h1, h2⟩, h3⟩, h4⟩ := hc
    refine ⟨by omega, by omega, ?_, by omega, by omega, by omega⟩
    unfold isUnit containsI indexI at h2
    simp only [idxGo] at h2
    by_cases e1 : x.2.1 = 1
    · exact .inl e1
    · by_cases e2 : x.2.1 = 2
      · exact .inr (.inl e2)
      · by_cases e3 : x.2.1 = 4
        · exact .inr (.inr (.inl e3))
        · by_cases e4 : x.2.1 = 8
          · exact .inr (.inr (.inr (.inl e4)))
          · by_cases e5 : x.2.1 = 16
            · exact .inr (.inr (.inr (.inr e5)))
            · have b1 : (x.2.1 == 1) = false := by simpa using e1
              have b2 : (x.2.1 == 2) = false := by simpa using e2
              have b3 : (x.2.1 == 4) = false := by simpa using e3
              have b4 : (x.2.1 == 8) = false := by simpa using e4
              have b5 : (x.2.1 == 16) = false := by simpa using e5
              simp only [b1, b2, b3, b4, b5, cond_false] at h2
              simp at h2

theorem rulesGo_bars : ∀ (l : List Bar) (op : Bool) (prev : Int), rulesGo op prev l = 0 → ∀ x ∈ l, barFault x = 0
  | [], _, _, _, x, hx => by simp at hx
  | y :: l, op, prev, h, x, hx => by
    simp only [rulesGo] at h
    cases hb : barFault y != 0 with
    | true => rw [hb] at h; simp at hb; exact absurd h hb
    | false =>
      rw [hb] at h
      simp only [cond_false] at h
      have hy : barFault y = 0 := by simpa using hb
      generalize (y.2.2.2.2 && op || !y.2.2.2.2 && !op && (y.2.2.1 != 0 || y.2.2.2.1 != 0) || op && decide (y.2.2.2.1 < prev)) = q at h
      cases q with
      | true => cases h
      | false =>
        rcases List.mem_cons.1 hx with rfl | hx
        · exact hy
        · exact rulesGo_bars l _ _ h x hx

theorem repGo_times (Q : Int → Prop) (h1 : Q 1) : ∀ (l : List Bar) (i op : Int) (out : List Rep), (∀ x ∈ l, 0 < x.2.2.1 → Q x.2.2.1) → (∀ r ∈ out, Q r.2.2) → ∀ r ∈ (repGo i op out l).1, Q r.2.2
  | [], i, op, out, _, h => h
  | x :: l, i, op, out, hl, h => by
    simp only [repGo]
    have hl' : ∀ x ∈ l, 0 < x.2.2.1 → Q x.2.2.1 := fun y hy => hl y (List.mem_cons_of_mem _ hy)
    cases decide (cond x.2.2.2.2 i op < 0)
    · cases h2 : decide (x.2.2.1 > 0)
      · exact repGo_times Q h1 l _ _ _ hl' h
      · refine repGo_times Q h1 l _ _ _ hl' fun r hr => ?_
        rcases List.mem_append.1 hr with hr | hr
        · exact h r hr
        · simp at hr; subst hr; exact hl x (by simp) (of_decide_eq_true h2)
    · refine repGo_times Q h1 l _ _ _ hl' fun r hr => ?_
      rcases List.mem_append.1 hr with hr | hr
      · exact h r hr
      · simp at hr; subst hr; exact h1

theorem repeats_ok {b : List Bar} (hb : b.length ≤ 300) (h : rulesFault b = 0) : orderOk b (repeats b).1 = true := by
  have hlen := repGo_len b 0 (-1) []
  have hin := repGo_in b.length b 0 (-1) [] (by omega) (by simp) (by simp)
  rw [show ((0 : Nat) : Int) = 0 from rfl] at hin
  have htm := repGo_times (fun t => 0 ≤ t ∧ t ≤ 9) (by omega) b 0 (-1) [] (fun x hx hp => by
    have := barFault_ok (rulesGo_bars b _ _ h x hx); omega) (by simp)
  unfold repeats orderOk
  cases (repGo 0 (-1) [] b).1.any (repBad b)
  · simp only [cond_false, Bool.and_eq_true, List.all_eq_true, decide_eq_true_eq]
    refine ⟨⟨hb, by simp at hlen; omega⟩, fun r hr => ?_⟩
    have := hin r hr
    have := htm r hr
    unfold RepIn at *
    omega
  · simp [hb]

theorem r13 : R13 := by
  intro a0 _
  rw [f13_run]
  unfold checkBars
  cases h0 : (a0.length : Int) == 0
  · cases h1 : decide ((a0.length : Int) > 300)
    · have hb : a0.length ≤ 300 := by have := of_decide_eq_false h1; omega
      have q : decide (a0.length ≤ 300) = true := by simpa using hb
      simp only [cond_false, q, cond_true]
      cases h2 : rulesFault a0 != 0
      · have hr : rulesFault a0 = 0 := by simpa using h2
        have ho := repeats_ok hb hr
        simp only [cond_false, ho, Bool.true_and, beq_self_eq_true, cond_true]
        cases (repeats a0).2 <;> try rfl
        cases decide (((order a0 (repeats a0).1 2000).length : Int) > 2000) <;> rfl
      · rfl
    · rfl
  · rfl

theorem checkBars_ok {b : List Bar} (h : checkBars b = 0) : b ≠ [] ∧ b.length ≤ 300 ∧ rulesFault b = 0 ∧ (repeats b).2 = true ∧ (order b (repeats b).1 2000).length ≤ 2000 := by
  unfold checkBars at h
  cases h0 : (b.length : Int) == 0 with
  | true => rw [h0] at h; cases h
  | false =>
    rw [h0] at h
    cases h1 : decide ((b.length : Int) > 300) with
    | true => rw [h1] at h; cases h
    | false =>
      rw [h1] at h
      simp only [cond_false] at h
      cases h2 : rulesFault b != 0 with
      | true => rw [h2] at h; simp at h2; exact absurd h h2
      | false =>
        rw [h2] at h
        simp only [cond_false] at h
        cases h3 : (repeats b).2 with
        | false => rw [h3] at h; cases h
        | true =>
          rw [h3] at h
          simp only [Bool.not_true, cond_false] at h
          cases h4 : decide (((order b (repeats b).1 2000).length : Int) > 2000) with
          | true => rw [h4] at h; cases h
          | false =>
            have e1 := of_decide_eq_false h1
            have e4 := of_decide_eq_false h4
            refine ⟨by rintro rfl; simp at h0, by omega, by simpa using h2, rfl, by omega⟩

theorem r21 : R21 := by
  intro a0 h
  obtain ⟨h1, h2, h3, h4, h5⟩ := checkBars_ok (b := a0) (by simpa using h)
  rw [f21_run, repeats_ok h2 h3]
  have q : decide (a0.length ≤ 300) = true := by simpa using h2
  rw [q]; rfl

theorem r6 : R6 := by
  intro a0 _
  rw [f6_run]
  unfold pOrder
  cases h : checkBars a0 != 0
  · have h1 : checkBars a0 == 0 := by simpa using h
    simp only [cond_false, h1, cond_true]
  · rfl

end Go.Ev.B

set_option linter.unusedVariables false
set_option linter.unusedSimpArgs false
namespace Go.Ev.B
open Go Go.Ev Go.Proofs
theorem gcdI_abs : ∀ (n : Nat) (a b : Int), b.natAbs ≤ n → (gcdI a b).natAbs = Nat.gcd a.natAbs b.natAbs := by
  intro n
  induction n with
  | zero =>
    intro a b h
    have hb : b = 0 := by omega
    subst hb
    rw [gcdI]; simp
  | succ n ih =>
    intro a b h
    rw [gcdI]
    by_cases hb : b = 0
    · subst hb; simp
    · rw [dif_neg hb]
      have hlt : (a.tmod b).natAbs < b.natAbs := by rw [Int.natAbs_tmod]; exact Nat.mod_lt _ (by omega)
      rw [ih b (a.tmod b) (by omega), Int.natAbs_tmod, Nat.gcd_comm, ← Nat.gcd_rec, Nat.gcd_comm]

theorem gcdI_ne {a b : Int} (h : b ≠ 0) : gcdI a b ≠ 0 := by
  have := gcdI_abs _ a b (Nat.le_refl _)
  have hp : 0 < Nat.gcd a.natAbs b.natAbs := Nat.gcd_pos_of_pos_right _ (by omega)
  intro e; rw [e] at this; simp at this; omega

theorem gcdI_le {a b : Int} (h : b ≠ 0) : (gcdI a b).natAbs ≤ b.natAbs := by
  rw [gcdI_abs _ a b (Nat.le_refl _)]
  exact Nat.gcd_le_right _ (by omega)

theorem gcdI_nonneg : ∀ (n : Nat) (a b : Int), b.natAbs ≤ n → 0 ≤ a → 0 ≤ b → 0 ≤ gcdI a b := by
  intro n
  induction n with
  | zero =>
    intro a b h ha hb
    have : b = 0 := by omega
    subst this
    rw [gcdI]; simpa using ha
  | succ n ih =>
    intro a b h ha hb
    rw [gcdI]
    by_cases h0 : b = 0
    · subst h0; simpa using ha
    · rw [dif_neg h0]
      have hlt : (a.tmod b).natAbs < b.natAbs := by rw [Int.natAbs_tmod]; exact Nat.mod_lt _ (by omega)
      exact ih b (a.tmod b) (by omega) hb (Int.tmod_nonneg _ ha)

theorem low_run (p q c d : Int) : ∀ (n : Nat) (a b : Int), b.natAbs ≤ n → gcdI a b ≠ 0 →
    f34h0 p q a b c d = some ⟨[.dat tFrac (wrap .i64 (p.tdiv (gcdI a b)), wrap .i64 (q.tdiv (gcdI a b)))], []⟩ := by
  intro n
  induction n with
  | zero =>
    intro a b h hg
    have hb : b = 0 := by omega
    subst hb
    have e : gcdI a 0 = a := by rw [gcdI]; simp
    rw [e] at hg ⊢
    have ha : (a == 0) = false := by simpa using hg
    rw [f34h0_eq, ha]; rfl
  | succ n ih =>
    intro a b h hg
    by_cases hb : b = 0
    · subst hb
      have e : gcdI a 0 = a := by rw [gcdI]; simp
      rw [e] at hg ⊢
      have ha : (a == 0) = false := by simpa using hg
      rw [f34h0_eq, ha]; rfl
    · have e : gcdI a b = gcdI b (a.tmod b) := by rw [gcdI, dif_neg hb]
      have h1 : (b != 0) = true := by simpa using hb
      have h2 : (b == 0) = false := by simpa using hb
      have hlt : (a.tmod b).natAbs < b.natAbs := by rw [Int.natAbs_tmod]; exact Nat.mod_lt _ (by omega)
      rw [f34h0_eq, h1, h2, cond_true, cond_false, ih b (a.tmod b) (by omega) (by rw [← e]; exact hg), e]

theorem r34 : R34 := by
  intro a0 a1 h
  have h1 : a1 = 192 := by simpa using h
  subst h1
  rw [f34_run, low_run _ _ _ _ _ a0 192 (Nat.le_refl _) (gcdI_ne (by omega))]; rfl

theorem r23 : R23 := by
  intro a0 _
  rw [f23_run]; rfl

theorem div_run : ∀ (n : Nat) (a b : Int), b.natAbs ≤ n → f36h0 a b = some ⟨[.dat tI (divisor a b)], []⟩ := by
  intro n
  induction n with
  | zero =>
    intro a b h
    have hb : b = 0 := by omega
    subst hb
    have e : gcdI a 0 = a := by rw [gcdI]; simp
    rw [f36h0_eq]; unfold divisor; rw [e]; rfl
  | succ n ih =>
    intro a b h
    by_cases hb : b = 0
    · subst hb
      have e : gcdI a 0 = a := by rw [gcdI]; simp
      rw [f36h0_eq]; unfold divisor; rw [e]; rfl
    · have e : gcdI a b = gcdI b (a.tmod b) := by rw [gcdI, dif_neg hb]
      have h1 : (b != 0) = true := by simpa using hb
      have h2 : (b == 0) = false := by simpa using hb
      have hlt : (a.tmod b).natAbs < b.natAbs := by rw [Int.natAbs_tmod]; exact Nat.mod_lt _ (by omega)
      rw [f36h0_eq, h1, h2, cond_true, cond_false, ih b (a.tmod b) (by omega)]
      unfold divisor; rw [e]

theorem r36 : R36 := by
  intro a0 a1 _
  rw [f36_run]
  exact div_run _ a0 a1 (Nat.le_refl _)

theorem divisor_192 (a : Int) : 1 ≤ divisor a 192 ∧ divisor a 192 ≤ 192 := by
  have h1 := gcdI_ne (a := a) (b := 192) (by omega)
  have h2 := gcdI_le (a := a) (b := 192) (by omega)
  unfold divisor
  generalize gcdI a 192 = g at *
  have h3 : g.natAbs ≤ 192 := h2
  rw [wrap_in (by omega) (by omega)]
  split <;> omega

theorem divisor_pos {a : Int} (h : 0 ≤ a) : divisor a 192 = gcdI a 192 := by
  have h1 := gcdI_nonneg _ a 192 (Nat.le_refl _) h (by omega)
  have h2 := gcdI_le (a := a) (b := 192) (by omega)
  have h3 : (gcdI a 192).natAbs ≤ 192 := h2
  unfold divisor
  rw [wrap_in (by omega) (by omega), if_neg (by omega)]

theorem lowest_pos {a : Int} (h : 0 ≤ a) : lowestR a 192 = lowest a 192 := by
  unfold lowestR lowest
  rw [divisor_pos h]

theorem r27 : R27 := by
  intro a0 a1 h
  have h1 : a1 = 192 := by simpa using h
  subst h1
  have := divisor_192 a0
  have h2 : (divisor a0 192 == 0) = false := by simp; omega
  rw [f27_run, h2]; rfl

/-! ### sums over the bars as they are played -/
theorem ordI_in (b : List Bar) (time most : Int) (n : Nat) : ∀ (k : Nat) (i : Int) (out : List Int), 0 ≤ i → i + k ≤ n → (∀ x ∈ out, 0 ≤ x ∧ x < n) → ∀ x ∈ ordI b time most k i out, 0 ≤ x ∧ x < n
  | 0, i, out, _, _, h => h
  | k + 1, i, out, h0, hn, h => by
    simp only [ordI]
    cases decide ((out.length : Int) ≤ most)
    · exact h
    · refine ordI_in b time most n k (i + 1) _ (by omega) (by omega) ?_
      cases (b.getD i.toNat (Tc.dflt tBar)).2.2.2.1 == 0 || (b.getD i.toNat (Tc.dflt tBar)).2.2.2.1 == time
      · exact h
      · intro x hx
        rcases List.mem_append.1 hx with hx | hx
        · exact h x hx
        · simp at hx; subst hx; omega

theorem ordT_in (b : List Bar) (most from_ to_ : Int) (n : Nat) (h1 : 0 ≤ from_) (h2 : from_ ≤ to_) (h3 : to_ ≤ n) : ∀ (k : Nat) (time : Int) (out : List Int), (∀ x ∈ out, 0 ≤ x ∧ x < n) → ∀ x ∈ ordT b most from_ to_ k time out, 0 ≤ x ∧ x < n
  | 0, _, _, h => h
  | k + 1, time, out, h => ordT_in b most from_ to_ n h1 h2 h3 k _ _ (ordI_in b time most n _ _ _ h1 (by omega) h)

theorem ordR_in (b : List Bar) (most : Int) (n : Nat) : ∀ (l : List Rep) (out : List Int), (∀ r ∈ l, 0 ≤ r.1 ∧ r.1 ≤ r.2.1 ∧ r.2.1 ≤ n) → (∀ x ∈ out, 0 ≤ x ∧ x < n) → ∀ x ∈ ordR b most l out, 0 ≤ x ∧ x < n
  | [], out, _, h => h
  | r :: l, out, hl, h => by
    obtain ⟨h1, h2, h3⟩ := hl r (by simp)
    exact ordR_in b most n l _ (fun r hr => hl r (List.mem_cons_of_mem _ hr)) (ordT_in b most _ _ n h1 h2 h3 _ _ _ h)

theorem played_in {b : List Bar} (h : checkBars b = 0) : ∀ x ∈ played b, 0 ≤ x ∧ x < b.length := by
  obtain ⟨h1, h2, h3, h4, h5⟩ := checkBars_ok h
  obtain ⟨_, _, h6⟩ := orderOk_spec (repeats_ok h2 h3)
  exact ordR_in b 2000 b.length _ _ (fun r hr => by have := h6 r hr; omega) (by simp)

theorem long_run (b : List Bar) (l : List Int) (hl : l.length ≤ 2000) (hin : ∀ x ∈ l, 0 ≤ x ∧ x < b.length) (hu : ∀ x ∈ b, x.2.1 ≠ 0) (c d : Int) : ∀ (k i : Nat) (n : Int), i + k = l.length →
    f7h0 b n l.length i c d l = some ⟨[.dat tFrac (lowest (sumW long (pick' b (l.drop i)) n) 192), .dat tI (0 : Int)], []⟩ := by
  intro k
  induction k with
  | zero =>
    intro i n hi
    rw [f7h0_eq, dlt_not (by omega), dnil (by omega)]; rfl
  | succ k ih =>
    intro i n hi
    have hlt : i < l.length := by omega
    obtain ⟨h1, h2⟩ := hin _ (List.getElem_mem hlt)
    have q0 : decide ((Int.toNat (i : Int)) < l.length) = true := by simpa using hlt
    rw [f7h0_eq, dlt hlt, dle0, q0, getN _ _ _ hlt, dcons hlt, wsucc (by omega)]
    generalize l[i] = x at *
    have q1 : decide ((0 : Int) ≤ x) = true := by simpa using h1
    have q2 : decide (x < (b.length : Int)) = true := by simpa using h2
    have q3 : ((List.getD b (Int.toNat x) (Tc.dflt tBar)).2.1 != 0) = true := by
      rw [getI b x _ h1 (by omega)]
      simpa using hu _ (List.getElem_mem (by omega))
    rw [q1, q2, q3]
    simp only [cond_true]
    rw [ih (i + 1) _ (by omega)]; rfl

theorem units_ok {b : List Bar} (h : rulesFault b = 0) : ∀ x ∈ b, x.2.1 ≠ 0 := by
  intro x hx
  have := barFault_ok (rulesGo_bars b _ _ h x hx)
  omega

theorem r7 : R7 := by
  intro a0 _
  rw [f7_run]
  unfold pLong
  cases h : checkBars a0 != 0
  · have h0 : checkBars a0 = 0 := by simpa using h
    have h1 : checkBars a0 == 0 := by simpa using h
    obtain ⟨k1, k2, k3, k4, k5⟩ := checkBars_ok h0
    have := long_run a0 (played a0) k5 (played_in h0) (units_ok k3) 0 0 (played a0).length 0 0 (by omega)
    rw [show ((0 : Nat) : Int) = 0 from rfl] at this
    simp only [cond_false, h1, cond_true]
    exact this
  · rfl

theorem beg_run (b : List Bar) (hb : b.length ≤ 300) (hu : ∀ x ∈ b, x.2.1 ≠ 0) : ∀ (k i : Nat) (n : Int) (out : List Frac), i + k = b.length → out.length = i →
    f8h0 n b b.length i out = some ⟨[.slc 0, .dat tI (0 : Int)], [(0, .arr tFrac (out ++ begW long (fun n => lowest n 192) (b.drop i) n))]⟩ := by
  intro k
  induction k with
  | zero =>
    intro i n out hi ho
    rw [f8h0_eq, dlt_not (by omega), dnil (by omega)]
    simp [begW]
  | succ k ih =>
    intro i n out hi ho
    have hlt : i < b.length := by omega
    have hx := hu _ (List.getElem_mem hlt)
    have hg : decide ((out.length + List.length [lowest n 192]) * 16 ≤ 140737488355328) = true := by simp; omega
    rw [f8h0_eq, dlt hlt, dle0, hg, getN _ _ _ hlt, dcons hlt, wsucc (by omega)]
    generalize b[i] = x at *
    have hq : (x.1, x.2.1, x.2.2.1, x.2.2.2.1, x.2.2.2.2) = x := rfl
    have q3 : (x.2.1 != 0) = true := by simpa using hx
    simp only [hq, q3, cond_true]
    rw [ih (i + 1) _ _ (by omega) (by simp [ho])]
    simp [begW]

theorem r8 : R8 := by
  intro a0 _
  rw [f8_run]
  unfold pBegins
  cases h : checkBars a0 != 0
  · have h0 : checkBars a0 = 0 := by simpa using h
    obtain ⟨k1, k2, k3, k4, k5⟩ := checkBars_ok h0
    have := beg_run a0 k2 (units_ok k3) a0.length 0 0 [] (by omega) rfl
    rw [show ((0 : Nat) : Int) = 0 from rfl] at this
    simp only [cond_false]
    exact this
  · rfl

theorem eqi_run (a b : List Int) (ha : a.length ≤ 1000000) (hl : a.length = b.length) : ∀ (k i : Nat), i + k = a.length →
    f14h0 a b a.length i = some ⟨[.dat .bool (a.drop i == b.drop i)], []⟩ := by
  intro k
  induction k with
  | zero =>
    intro i hi
    rw [f14h0_eq, dlt_not (by omega), dnil (by omega), dnil (by omega)]; rfl
  | succ k ih =>
    intro i hi
    have h1 : i < a.length := by omega
    have h2 : i < b.length := by omega
    rw [f14h0_eq, dlt h1, dle0, dlt h2, getN _ _ _ h1, getN _ _ _ h2, dcons h1, dcons h2, wsucc (by omega), ih (i + 1) (by omega)]
    simp only [cond_true, List.cons_beq_cons]
    cases hq : a[i] != b[i]
    · have : (a[i] == b[i]) = true := by simpa using hq
      rw [this]; rfl
    · have : (a[i] == b[i]) = false := by simpa using hq
      rw [this]; rfl

theorem r14 : R14 := by
  intro a0 a1 h
  rw [f14_run]
  unfold equalI
  by_cases hl : a0.length = a1.length
  · have q : ((a0.length : Int) != (a1.length : Int)) = false := by simp [hl]
    rw [q]
    exact eqi_run a0 a1 (by simpa using h) hl a0.length 0 (by omega)
  · have q : ((a0.length : Int) != (a1.length : Int)) = true := by simp; omega
    have q2 : (a0 == a1) = false := by
      cases hc : a0 == a1
      · rfl
      · rw [beq_iff_eq.1 hc] at hl; exact absurd rfl hl
    rw [q, q2]; rfl

theorem eqf_run (a b : List Frac) (ha : a.length ≤ 1000000) (hl : a.length = b.length) : ∀ (k i : Nat), i + k = a.length →
    f15h0 a b a.length i = some ⟨[.dat .bool (a.drop i == b.drop i)], []⟩ := by
  intro k
  induction k with
  | zero =>
    intro i hi
    rw [f15h0_eq, dlt_not (by omega), dnil (by omega), dnil (by omega)]; rfl
  | succ k ih =>
    intro i hi
    have h1 : i < a.length := by omega
    have h2 : i < b.length := by omega
    rw [f15h0_eq, dlt h1, dle0, dlt h2, getN _ _ _ h1, getN _ _ _ h2, dcons h1, dcons h2, wsucc (by omega), ih (i + 1) (by omega)]
    simp only [cond_true, List.cons_beq_cons]
    have e : Tc.beq tFrac a[i] b[i] = (a[i] == b[i]) := by rfl
    have e2 : Tc.beq tFrac ((a[i]).1, (a[i]).2) ((b[i]).1, (b[i]).2) = (a[i] == b[i]) := by rfl
    simp only [e, e2]
    cases a[i] == b[i] <;> rfl

theorem r15 : R15 := by
  intro a0 a1 h
  rw [f15_run]
  unfold equalF
  by_cases hl : a0.length = a1.length
  · have q : ((a0.length : Int) != (a1.length : Int)) = false := by simp [hl]
    rw [q]
    exact eqf_run a0 a1 (by simpa using h) hl a0.length 0 (by omega)
  · have q : ((a0.length : Int) != (a1.length : Int)) = true := by simp; omega
    have q2 : (a0 == a1) = false := by
      cases hc : a0 == a1
      · rfl
      · rw [beq_iff_eq.1 hc] at hl; exact absurd rfl hl
    rw [q, q2]; rfl

end Go.Ev.B

set_option linter.unusedVariables false
set_option linter.unusedSimpArgs false
namespace Go.Ev.B
open Go Go.Ev Go.Proofs
theorem takeTo_split : ∀ (l : List Bar) (p : List Bar × List Bar × Int), takeTo l = some p → l = p.1 ++ p.2.1 ∧ 1 ≤ p.1.length ∧ p.2.2 ≠ 0 ∧ ∃ x ∈ l, x.2.2.1 = p.2.2
  | [], p, h => by simp [takeTo] at h
  | x :: l, p, h => by
    simp only [takeTo] at h
    cases hx : x.2.2.1 == 0 with
    | false =>
      rw [hx] at h
      simp at h; subst h
      exact ⟨rfl, by simp, by simpa using hx, x, by simp, rfl⟩
    | true =>
      rw [hx] at h
      simp only [cond_true] at h
      cases ht : takeTo l with
      | none => rw [ht] at h; cases h
      | some q =>
        rw [ht] at h
        simp only [Option.map_some, Option.some.injEq] at h
        subst h
        obtain ⟨h1, h2, h3, y, h4, h5⟩ := takeTo_split l q ht
        refine ⟨?_, by simp, h3, y, List.mem_cons_of_mem _ h4, h5⟩
        simp only [List.cons_append]
        rw [← h1]

theorem ref_run2 (b : List Bar) (hb : b.length ≤ 300) (i : Int) (out : List Int) : ∀ (l : List Bar) (j : Nat) (p : List Bar × List Bar × Int), l = b.drop j → takeTo l = some p →
    f10h2 b i j out = f10h4 b i ((j + p.1.length - 1 : Nat) : Int) 1 out ∧ ∃ h : j + p.1.length - 1 < b.length, (b[j + p.1.length - 1]).2.2.1 = p.2.2
  | [], j, p, hl, h => by simp [takeTo] at h
  | x :: l, j, p, hl, h => by
    have hlt : j < b.length := by
      refine Nat.lt_of_not_le fun hc => ?_
      rw [List.drop_eq_nil_of_le hc] at hl; cases hl
    rw [dcons hlt] at hl
    simp only [List.cons.injEq] at hl
    obtain ⟨rfl, hl⟩ := hl
    rw [f10h2_eq, dle0, dlt hlt, getN _ _ _ hlt, wsucc (by omega)]
    simp only [cond_true]
    simp only [takeTo] at h
    have hc : ((b[j]).2.2.1 == (0 : Int)) = ((b[j]).2.2.1 == 0) := rfl
    cases hx : (b[j]).2.2.1 == 0 with
    | false =>
      rw [hx] at h
      simp at h; subst h
      exact ⟨by simp, by simpa using hlt, by simp⟩
    | true =>
      rw [hx] at h
      simp only [cond_true] at h
      cases ht : takeTo l with
      | none => rw [ht] at h; cases h
      | some q =>
        rw [ht] at h
        simp only [Option.map_some, Option.some.injEq] at h
        subst h
        obtain ⟨h1, h2, h3⟩ := ref_run2 b hb i out l (j + 1) q hl ht
        simp only [cond_true]
        have e : j + (b[j] :: q.1).length - 1 = j + 1 + q.1.length - 1 := by rw [List.length_cons]; omega
        rw [h1]
        refine ⟨by rw [e], by rw [e]; exact h2, ?_⟩
        simp only [e]; exact h3

theorem atTime_len (t : Int) : ∀ (l : List Bar) (i : Int), (atTime t i l).length ≤ l.length
  | [], i => by simp [atTime]
  | x :: l, i => by
    have := atTime_len t l (i + 1)
    simp only [atTime]
    cases x.2.2.2.1 == 0 || x.2.2.2.1 == t
    · simp only [cond_false, List.length_cons]; omega
    · simp only [cond_true, List.length_cons]; omega

theorem ref_run6 (b : List Bar) (hb : b.length ≤ 300) (i : Int) (j : Nat) (hj : j < b.length) (t : Int) : ∀ (m k : Nat) (out : List Int), k + m = j + 1 → out.length + m ≤ 1000000 →
    f10h6 b i j t k out = f10h4 b i j (wrap .i64 (t + 1)) (out ++ atTime t k ((b.drop k).take m)) := by
  intro m
  induction m with
  | zero =>
    intro k out hk ho
    have : decide ((k : Int) ≤ (j : Int)) = false := by simp; omega
    rw [f10h6_eq, this]
    simp [atTime]
  | succ m ih =>
    intro k out hk ho
    have h1 : decide ((k : Int) ≤ (j : Int)) = true := by simp; omega
    have hlt : k < b.length := by omega
    have hg : decide ((out.length + List.length [(k : Int)]) * 8 ≤ 140737488355328) = true := by simp; omega
    rw [f10h6_eq, h1, dle0, dlt hlt, hg, getN _ _ _ hlt, dcons hlt, wsucc (by omega)]
    simp only [cond_true, List.take_succ_cons, atTime]
    have e : ((k + 1 : Nat) : Int) = (k : Int) + 1 := by simp
    rw [ih (k + 1) _ (by omega) (by simp; omega), ih (k + 1) _ (by omega) (by omega), e]
    cases (b[k]).2.2.2.1 == (0 : Int) <;> cases (b[k]).2.2.2.1 == t <;> simp

theorem ref_run4 (b : List Bar) (hb : b.length ≤ 300) (i j : Nat) (hij : i ≤ j) (hj : j < b.length) (cl : Int) (hcl : (b[j]).2.2.1 = cl) : ∀ (k t : Nat) (out : List Int), ((t + k : Nat) : Int) = cl + 1 → t + k ≤ 100 → out.length + k * 300 ≤ 1000000 →
    f10h4 b i j t out = f10h0 b ((j + 1 : Nat) : Int) (out ++ times ((b.drop i).take (j + 1 - i)) i k t) := by
  intro k
  induction k with
  | zero =>
    intro t out ht h9 ho
    have : decide ((t : Int) ≤ (b[j]).2.2.1) = false := by simp; omega
    rw [f10h4_eq, dle0, dlt hj, getN _ _ _ hj, this, wsucc (by omega)]
    simp [times]
  | succ k ih =>
    intro t out ht h9 ho
    have : decide ((t : Int) ≤ (b[j]).2.2.1) = true := by simp; omega
    rw [f10h4_eq, dle0, dlt hj, getN _ _ _ hj, this]
    simp only [cond_true, times]
    have hlen := atTime_len t ((b.drop i).take (j + 1 - i)) i
    simp at hlen
    rw [ref_run6 b hb i j hj t (j + 1 - i) i out (by omega) (by omega), wsucc (by omega), ih (t + 1) _ (by rw [← ht]; congr 1; omega) (by omega) (by simp; omega)]
    rw [show ((t + 1 : Nat) : Int) = (t : Int) + 1 by simp, List.append_assoc]

theorem times_len (seg : List Bar) (i : Int) : ∀ (k : Nat) (t : Int), (times seg i k t).length ≤ k * seg.length
  | 0, t => by simp [times]
  | k + 1, t => by
    have h1 := times_len seg i k (t + 1)
    have h2 := atTime_len t seg i
    simp only [times, List.length_append]
    rw [Nat.succ_mul]; omega

theorem ref_run0 (b : List Bar) (hb : b.length ≤ 300) (hc : ∀ x ∈ b, 0 ≤ x.2.2.1 ∧ x.2.2.1 ≤ 9) : ∀ (n i : Nat) (out res : List Int), b.length - i ≤ n → refGo n i (b.drop i) = some res → out.length + 2700 * (b.length - i) ≤ 1000000 →
    f10h0 b i out = some ⟨[.slc 0], [(0, .arr tI (out ++ res))]⟩ := by
  intro n
  induction n with
  | zero =>
    intro i out res hi hr ho
    simp [refGo] at hr; subst hr
    rw [f10h0_eq, dlt_not (by omega)]; simp
  | succ n ih =>
    intro i out res hi hr ho
    by_cases hlt : i < b.length
    · have hd := dcons hlt
      rw [hd] at hr
      have hg : decide ((out.length + List.length [(i : Int)]) * 8 ≤ 140737488355328) = true := by simp; omega
      rw [f10h0_eq, dlt hlt, dle0, hg, getN _ _ _ hlt, wsucc (by omega)]
      simp only [refGo] at hr
      simp only [cond_true]
      have e : ((i + 1 : Nat) : Int) = (i : Int) + 1 := by simp
      cases hop : !(b[i]).2.2.2.2 with
      | true =>
        rw [hop] at hr
        simp only [cond_true] at hr ⊢
        cases hq : refGo n ((i : Int) + 1) (b.drop (i + 1)) with
        | none => rw [hq] at hr; cases hr
        | some o =>
          rw [hq] at hr
          simp only [Option.map_some, Option.some.injEq] at hr
          subst hr
          rw [ih (i + 1) (out ++ [(i : Int)]) o (by omega) (by rw [e]; exact hq) (by simp; omega)]
          simp
      | false =>
        rw [hop] at hr
        simp only [cond_false] at hr ⊢
        cases ht : takeTo (b[i] :: b.drop (i + 1)) with
        | none => rw [ht] at hr; cases hr
        | some p =>
          rw [ht] at hr
          simp only at hr
          obtain ⟨h1, h2, h3, y, h4, h5⟩ := takeTo_split _ p ht
          have hcl : 0 ≤ p.2.2 ∧ p.2.2 ≤ 9 := by rw [← h5]; exact hc y (List.mem_of_mem_drop (by rw [hd]; exact h4))
          obtain ⟨g1, g2, g3⟩ := ref_run2 b hb i out _ i p hd.symm ht
          have hseg : (b.drop i).take (i + p.1.length - 1 + 1 - i) = p.1 := by
            rw [hd, h1, show i + p.1.length - 1 + 1 - i = p.1.length by omega]; simp
          have hrest : b.drop (i + p.1.length - 1 + 1) = p.2.1 := by
            rw [show i + p.1.length - 1 + 1 = i + p.1.length by omega, ← List.drop_drop, hd, h1]; simp
          have hl : p.1.length ≤ 300 := by
            have : (b[i] :: b.drop (i + 1)).length = p.1.length + p.2.1.length := by rw [h1]; simp
            rw [← hd] at this; simp at this; omega
          have g4 := ref_run4 b hb i (i + p.1.length - 1) (by omega) g2 p.2.2 g3 p.2.2.toNat 1 out (by omega) (by omega) (by omega)
          rw [show ((1 : Nat) : Int) = 1 from rfl] at g4
          rw [g1, g4, hseg]
          cases hq : refGo n ((i : Int) + (p.1.length : Int)) p.2.1 with
          | none => rw [hq] at hr; cases hr
          | some o =>
            rw [hq] at hr
            simp only [Option.map_some, Option.some.injEq] at hr
            subst hr
            have hn : (((i + p.1.length - 1 + 1 : Nat)) : Int) = (i : Int) + (p.1.length : Int) := by omega
            have htl := times_len p.1 i p.2.2.toNat 1
            have hle : p.2.2.toNat * p.1.length ≤ 2700 := by
              have : p.2.2.toNat * p.1.length ≤ 9 * 300 := Nat.mul_le_mul (by omega) hl
              omega
            rw [ih (i + p.1.length - 1 + 1) (out ++ times p.1 i p.2.2.toNat 1) o (by omega) (by rw [hn, hrest]; exact hq) (by simp; omega)]
            simp
    · rw [dnil (by omega)] at hr
      simp [refGo] at hr; subst hr
      rw [f10h0_eq, dlt_not (by omega)]; simp

theorem refOk_spec {b : List Bar} (h : refOk b = true) : b.length ≤ 300 ∧ refGo 300 0 b = some (orderOf b) ∧ ∀ x ∈ b, 0 ≤ x.2.2.1 ∧ x.2.2.1 ≤ 9 := by
  simp only [refOk, Bool.and_eq_true, List.all_eq_true, decide_eq_true_eq] at h
  obtain ⟨⟨h1, h2⟩, h3⟩ := h
  refine ⟨h1, ?_, fun x hx => h3 x hx⟩
  unfold orderOf
  cases hr : refGo 300 0 b with
  | none => rw [hr] at h2; cases h2
  | some o => rfl

theorem r10 : R10 := by
  intro a0 h
  obtain ⟨h1, h2, h3⟩ := refOk_spec h
  rw [f10_run]
  have := ref_run0 a0 h1 h3 300 0 [] (orderOf a0) (by omega) (by simpa using h2) (by simp; omega)
  simpa using this

end Go.Ev.B

set_option linter.unusedVariables false
set_option linter.unusedSimpArgs false
namespace Go.Ev.B
open Go Go.Ev Go.Proofs
noncomputable def endF (b : List Bar) (w : Bool) : Option Fr := cond w (some ⟨[.dat tI 16], []⟩) (cond (refOk b) (cond (decide (((orderOf b).length : Int) > 2000)) (some ⟨[.dat tI 2], []⟩) (some ⟨[.dat tI 0], []⟩)) none)

theorem fault_run (b : List Bar) (hb : b.length ≤ 300) : ∀ (k i : Nat) (op : Bool) (ending most : Int) (wrong : Bool), i + k = b.length →
    f9h1 b op ending most wrong b b.length i = match faultGo op ending most wrong (b.drop i) with
      | .inl e => some ⟨[.dat tI e], []⟩
      | .inr w => endF b w := by
  intro k
  induction k with
  | zero =>
    intro i op ending most wrong hi
    rw [f9h1_eq, dlt_not (by omega), dnil (by omega)]
    cases op <;> cases wrong <;> rfl
  | succ k ih =>
    intro i op ending most wrong hi
    have hlt : i < b.length := by omega
    have hn : ∀ op e m w, f9h1 b op e m w b b.length ((i + 1 : Nat) : Int) = match faultGo op e m w (b.drop (i + 1)) with
      | .inl e => some ⟨[.dat tI e], []⟩
      | .inr w => endF b w := fun op e m w => ih (i + 1) op e m w (by omega)
    rw [f9h1_eq, dlt hlt, dle0, getN _ _ _ hlt, dcons hlt, wsucc (by omega)]
    have hL : decide (List.length [(1 : Int), 2, 4, 8, 16] ≤ 1000000) = true := rfl
    simp only [cond_true, hn, faultGo, decide_true, hL]
    generalize b[i] = x
    generalize b.drop (i + 1) = l
    rcases x with ⟨be, un, cl, en, o⟩
    simp only []
    cases inR be 1 16 with
    | false => rfl
    | true =>
    cases containsI [1, 2, 4, 8, 16] un with
    | false => rfl
    | true =>
    cases hcl : cl != 0 with
    | true =>
      cases inR cl 2 9 with
      | false => rfl
      | true =>
      cases inR en 0 9 with
      | false => rfl
      | true =>
      have hc0 : (cl == 0) = false := by simpa using hcl
      cases h1 : decide (en < 0) <;> cases h2 : decide (en < ending) <;> cases h3 : en != 0 <;> cases o <;> cases op <;> cases wrong <;> first | rfl | (simp only [hc0, mx, h1, h2, h3, cond_true, cond_false, Bool.or_true, Bool.true_or, Bool.or_false, Bool.false_or, Bool.and_true, Bool.true_and, Bool.and_false, Bool.false_and, Bool.not_true, Bool.not_false, gt_iff_lt])
    | false =>
      have hc0 : (cl == 0) = true := by simpa using hcl
      cases inR en 0 9 with
      | false => rfl
      | true =>
      cases h1 : decide (en < 0) <;> cases h2 : decide (en < ending) <;> cases h3 : en != 0 <;> cases o <;> cases op <;> cases wrong <;> first | rfl | (simp only [hc0, mx, h1, h2, h3, cond_true, cond_false, Bool.or_true, Bool.true_or, Bool.or_false, Bool.false_or, Bool.and_true, Bool.true_and, Bool.and_false, Bool.false_and, Bool.not_true, Bool.not_false, gt_iff_lt])

theorem written_val : pOrder [((1 : Int), ((4 : Int), ((2 : Int), ((0 : Int), true))))] = ([0, 0], 0) := by kernel_rfl

theorem r16 : R16 := by
  intro _
  rw [f16_run, written_val]; rfl

end Go.Ev.B

set_option linter.unusedVariables false
set_option linter.unusedSimpArgs false
namespace Go.Ev.B
open Go Go.Ev Go.Proofs
theorem isU_eq (n : Int) : containsI [1, 2, 4, 8, 16] n = isUnit n := rfl

theorem outside_in (n lo hi : Int) : outside n lo hi = !inR n lo hi := by
  unfold outside inR
  have h1 : decide (n < lo) = !decide (lo ≤ n) := by
    by_cases h : lo ≤ n
    · have : ¬ n < lo := by omega
      simp [h, this]
    · have : n < lo := by omega
      simp [h, this]
  have h2 : decide (n > hi) = !decide (n ≤ hi) := by
    by_cases h : n ≤ hi
    · have : ¬ n > hi := by omega
      simp [h, this]
    · have : n > hi := by omega
      simp [h, this]
  rw [h1, h2, Bool.not_and]

/-- The reference finds the same faults as the rules. -/
theorem fault_rules : ∀ (l : List Bar) (op : Bool) (prev ending most : Int) (wrong : Bool), (op = true → prev = ending) → rulesGo op prev l ≠ 0 →
    faultGo op ending most wrong l = .inl (rulesGo op prev l)
  | [], op, p, e, m, w, _, h => absurd rfl h
  | x :: l, op, p, e, m, w, hp, h => by
    have ih : ∀ (op : Bool) (p e m : Int) (w : Bool), (op = true → p = e) → rulesGo op p l ≠ 0 → faultGo op e m w l = .inl (rulesGo op p l) := fun op p e m w => fault_rules l op p e m w
    rcases x with ⟨be, un, cl, en, o⟩
    simp only [rulesGo, faultGo, barFault, outside_in, isU_eq] at h ⊢
    generalize hb : (!inR be 1 16 || !isUnit un || cl != 0 && !inR cl 2 9 || !inR en 0 9) = bf at *
    cases bf with
    | true => rfl
    | false =>
      simp only [Bool.or_eq_false_iff] at hb
      have hen : 0 ≤ en := by
        have := hb.2
        simp [inR] at this; omega
      have h0 : decide (en < 0) = false := by simp; omega
      have hz : (cond false (1 : Int) 0 != 0) = false := rfl
      simp only [hz, cond_false] at h ⊢
      cases op with
      | true =>
        have hp := hp rfl
        subst hp
        cases o with
        | true => rfl
        | false =>
          simp only [Bool.false_and, Bool.not_true, Bool.and_false, Bool.true_and, Bool.false_or, Bool.or_false, Bool.true_or, cond_false, cond_true] at h ⊢
          cases hd : decide (en < p) with
          | true => rfl
          | false =>
            rw [hd] at h
            simp only [cond_false] at h ⊢
            exact ih _ _ _ _ _ (fun _ => rfl) h
      | false =>
        cases o with
        | true =>
          simp only [Bool.and_false, Bool.not_true, Bool.false_and, Bool.or_false, Bool.false_or, Bool.or_true, Bool.true_and, cond_false, cond_true, h0] at h ⊢
          exact ih _ _ _ _ _ (fun _ => rfl) h
        | false =>
          simp only [Bool.and_false, Bool.not_false, Bool.false_and, Bool.or_false, Bool.false_or, Bool.true_and, cond_false] at h ⊢
          cases hd : (cl != 0 || en != 0) with
          | true => rfl
          | false =>
            rw [hd] at h
            simp only [cond_false] at h ⊢
            exact ih _ _ _ _ _ (fun h => by cases h) h

theorem any_rep1 (b : List Bar) (i : Int) : repBad b (i, i + 1, 1) = false := by
  unfold repBad
  rw [List.any_eq_false]
  intro x _
  simp

theorem take_drop_succ {b : List Bar} {i o : Nat} {x : Bar} {l : List Bar} (h : b.drop i = x :: l) (ho : o ≤ i) : (b.take (i + 1)).drop o = (b.take i).drop o ++ [x] := by
  have hlt : i < b.length := by
    refine Nat.lt_of_not_le fun hc => ?_
    rw [List.drop_eq_nil_of_le hc] at h; cases h
  have hx : b[i] = x := by rw [dcons hlt] at h; exact (List.cons.inj h).1
  rw [List.take_succ_eq_append_getElem hlt, hx, List.drop_append_of_le_length (by simp; omega)]

theorem drop_next {b : List Bar} {i : Nat} {x : Bar} {l : List Bar} (h : b.drop i = x :: l) : b.drop (i + 1) = l := by
  have := congrArg List.tail h
  simpa using this

end Go.Ev.B

set_option linter.unusedVariables false
set_option linter.unusedSimpArgs false
namespace Go.Ev.B
open Go Go.Ev Go.Proofs
theorem mx_gt (a b c : Int) : decide (mx a b > c) = (decide (a > c) || decide (b > c)) := by
  unfold mx
  by_cases h : a < b
  · rw [if_pos h]
    by_cases h2 : b > c
    · simp [h2]
    · have : ¬ a > c := by omega
      simp [h2, this]
  · rw [if_neg h]
    by_cases h2 : a > c
    · simp [h2]
    · have : ¬ b > c := by omega
      simp [h2, this]

/-- What is open, how great an Ending was met since. -/
def Seen (b : List Bar) (i : Nat) (opn most : Int) : Prop := ∀ c, 0 ≤ c → decide (most > c) = ((b.take i).drop opn.toNat).any fun x => decide (x.2.2.2.1 > c)

theorem fault_reps (b : List Bar) : ∀ (l : List Bar) (i : Nat) (op : Bool) (opn prev ending most : Int) (wrong : Bool) (out : List Rep), b.drop i = l → op = decide (0 ≤ opn) → opn ≤ i →
    (op = true → prev = ending ∧ Seen b i opn most) → rulesGo op prev l = 0 →
    ∃ W, faultGo op ending most wrong l = .inr (decide (0 ≤ (repGo i opn out l).2) || (wrong || W)) ∧ (repGo i opn out l).1.any (repBad b) = (out.any (repBad b) || W)
  | [], i, op, opn, p, e, m, w, out, hl, ho, hi, hp, h => ⟨false, by simp only [faultGo, Bool.or_false]; rw [ho]; rfl, by simp [repGo]⟩
  | x :: l, i, op, opn, p, e, m, w, out, hl, ho, hi, hp, h => by
    have hl' := drop_next hl
    have hx := barFault_ok (rulesGo_bars _ _ _ h x (by simp))
    have hbf : barFault x = 0 := rulesGo_bars _ _ _ h x (by simp)
    have e1 : ((i : Int) + 1) = ((i + 1 : Nat) : Int) := by simp
    have ih := fun op opn p e m w out => fault_reps b l (i + 1) op opn p e m w out hl'
    have hfb : (!inR x.1 1 16 || !containsI [1, 2, 4, 8, 16] x.2.1 || (x.2.2.1 != 0 && !inR x.2.2.1 2 9) || !inR x.2.2.2.1 0 9) = false := by
      unfold barFault at hbf
      simp only [outside_in] at hbf
      rw [isU_eq]
      cases hc : (!inR x.1 1 16 || !isUnit x.2.1 || (x.2.2.1 != 0 && !inR x.2.2.1 2 9) || !inR x.2.2.2.1 0 9) with
      | false => rfl
      | true => rw [hc] at hbf; cases hbf
    have hz : (barFault x != 0) = false := by simp [hbf]
    simp only [rulesGo, hz, cond_false] at h
    simp only [faultGo, hfb, cond_false, repGo]
    generalize hq : (x.2.2.2.2 && op || !x.2.2.2.2 && !op && (x.2.2.1 != 0 || x.2.2.2.1 != 0) || op && decide (x.2.2.2.1 < p)) = q at h
    cases q with
    | true => cases h
    | false =>
      simp only [cond_false] at h
      simp only [Bool.or_eq_false_iff] at hq
      obtain ⟨⟨q1, q2⟩, q3⟩ := hq
      simp only [q1, cond_false]
      -- the opening
      obtain ⟨o', ho'⟩ : ∃ o', o' = cond x.2.2.2.2 (i : Int) opn := ⟨_, rfl⟩
      have hop : (op || x.2.2.2.2) = decide (0 ≤ o') := by
        rw [ho']
        cases x.2.2.2.2
        · simp [ho]
        · simp
      have ho'i : o' ≤ i := by rw [ho']; cases x.2.2.2.2 <;> simp [hi]
      have hlt0 : decide (o' < 0) = !decide (0 ≤ o') := by
        by_cases hc : 0 ≤ o'
        · have : ¬ o' < 0 := by omega
          simp [hc, this]
        · have : o' < 0 := by omega
          simp [hc, this]
      rw [hop] at h ⊢
      simp only [← ho', hlt0]
      cases hd : decide (0 ≤ o') with
      | false =>
        have hop0 : op = false ∧ x.2.2.2.2 = false := by rw [hd] at hop; simpa using hop
        rw [hop0.1, hop0.2] at q2
        simp only [Bool.not_false, Bool.true_and, Bool.or_eq_false_iff] at q2
        rw [hd] at h
        simp only [Bool.not_false, Bool.true_and, Bool.false_and, Bool.or_false, cond_true, cond_false, q2.1, q2.2, Bool.or_self] at h ⊢
        have hneg : ¬ 0 ≤ o' := of_decide_eq_false hd
        obtain ⟨W, g1, g2⟩ := ih false o' x.2.2.2.1 e m w (out ++ [((i : Int), (i : Int) + 1, 1)]) (by rw [hd]) (by omega) (by simp) h
        rw [← e1] at g1 g2
        refine ⟨W, g1, ?_⟩
        rw [g2]
        simp [any_rep1]
      | true =>
        have h0 : 0 ≤ o' := of_decide_eq_true hd
        rw [hd] at h hop
        have hen0 : decide (x.2.2.2.1 < 0) = false := by simp; omega
        have hq3 : decide (x.2.2.2.1 < cond x.2.2.2.2 0 e) = false := by
          cases hO : x.2.2.2.2 with
          | true => exact hen0
          | false =>
            rw [hO] at hop
            have hop1 : op = true := by simpa using hop
            rw [hop1] at q3
            have := (hp hop1).1
            rw [← this]; simpa using q3
        have hseen : Seen b (i + 1) o' (mx (cond x.2.2.2.2 0 m) x.2.2.2.1) := by
          intro c hc
          rw [mx_gt, take_drop_succ hl (by omega), List.any_append]
          simp only [List.any_cons, List.any_nil, Bool.or_false]
          congr 1
          cases hO : x.2.2.2.2 with
          | true =>
            rw [hO] at ho'
            have : o' = i := ho'
            subst this
            have hz : decide ((0 : Int) > c) = false := by simp; omega
            have hn : (b.take i).drop (Int.toNat (i : Int)) = [] := List.drop_eq_nil_of_le (by simp; omega)
            rw [hn]; simpa using hz
          | false =>
            rw [hO] at ho' hop
            have : o' = opn := ho'
            subst this
            exact (hp (by simpa using hop)).2 c hc
        generalize mx (cond x.2.2.2.2 0 m) x.2.2.2.1 = m' at *
        simp only [Bool.not_true, Bool.false_and, Bool.true_and, Bool.false_or, hq3, cond_false, cond_true] at h ⊢
        cases hcl : decide (x.2.2.1 > 0) with
        | false =>
          have hc0 : x.2.2.1 = 0 := by have := of_decide_eq_false hcl; omega
          have hc1 : (x.2.2.1 == 0) = true := by simp [hc0]
          have hc2 : (x.2.2.1 != 0) = false := by simp [hc0]
          simp only [hc1, hc2, Bool.false_and, Bool.or_false, cond_false] at h ⊢
          obtain ⟨W, g1, g2⟩ := ih true o' x.2.2.2.1 x.2.2.2.1 m' w out (by rw [hd]) (by omega) (fun _ => ⟨rfl, hseen⟩) h
          rw [← e1] at g1 g2
          exact ⟨W, g1, g2⟩
        | true =>
          have hc0 : 2 ≤ x.2.2.1 := by have := of_decide_eq_true hcl; omega
          have hc1 : (x.2.2.1 == 0) = false := by simp; omega
          have hc2 : (x.2.2.1 != 0) = true := by simp; omega
          simp only [hc1, hc2, Bool.true_and, cond_true] at h ⊢
          have hbad : repBad b (o', (i : Int) + 1, x.2.2.1) = decide (m' > x.2.2.1) := by
            rw [hseen x.2.2.1 (by omega)]
            unfold repBad
            have hd1 : decide (x.2.2.1 > 1) = true := by simp; omega
            simp only [hd1, Bool.true_and]
            rw [show ((i : Int) + 1).toNat = i + 1 by omega]
          obtain ⟨W, g1, g2⟩ := ih false (-1) x.2.2.2.1 x.2.2.2.1 m' (w || decide (m' > x.2.2.1)) (out ++ [(o', (i : Int) + 1, x.2.2.1)]) rfl (by omega) (by simp) h
          rw [← e1] at g1 g2
          refine ⟨decide (m' > x.2.2.1) || W, by rw [g1]; simp only [Bool.or_assoc], ?_⟩
          rw [g2]
          simp only [List.any_append, List.any_cons, List.any_nil, Bool.or_false, hbad, Bool.or_assoc]

end Go.Ev.B

set_option linter.unusedVariables false
set_option linter.unusedSimpArgs false
namespace Go.Ev.B
open Go Go.Ev Go.Proofs
theorem take_app {α : Type} (a b c : List α) (n : Nat) : ((a ++ b).take n ++ c).take n = (a ++ b ++ c).take n := by
  by_cases h : (a ++ b).length ≤ n
  · rw [List.take_of_length_le h]
  · have h' : n ≤ (a ++ b).length := by omega
    rw [List.take_append_of_le_length (l₁ := (a ++ b).take n) (by rw [List.length_take]; omega), List.take_take, Nat.min_self, List.take_append_of_le_length (l₁ := a ++ b) h']

theorem ordI_take (b : List Bar) (time : Int) : ∀ (k i : Nat) (out : List Int), i + k ≤ b.length → out.length ≤ 2001 →
    ordI b time 2000 k i out = (out ++ atTime time i ((b.drop i).take k)).take 2001
  | 0, i, out, h, ho => by simp [ordI, atTime, List.take_of_length_le ho]
  | k + 1, i, out, h, ho => by
    have hlt : i < b.length := by omega
    rw [dcons hlt]
    simp only [ordI, List.take_succ_cons, atTime, getN _ _ _ hlt]
    have e : (i : Int) + 1 = ((i + 1 : Nat) : Int) := by simp
    cases hc : decide ((out.length : Int) ≤ 2000) with
    | false =>
      have : out.length = 2001 := by have := of_decide_eq_false hc; omega
      rw [cond_false, List.take_append_of_le_length (by omega), List.take_of_length_le (by omega)]
    | true =>
      have : out.length ≤ 2000 := by have := of_decide_eq_true hc; omega
      rw [cond_true, e]
      cases (b[i]).2.2.2.1 == 0 || (b[i]).2.2.2.1 == time with
      | false => rw [cond_false, cond_false]; exact ordI_take b time k (i + 1) out (by omega) ho
      | true =>
        rw [cond_true, cond_true, ordI_take b time k (i + 1) _ (by omega) (by simp; omega), List.append_assoc]
        rfl

theorem ordT_take (b : List Bar) (f t : Nat) (hf : f ≤ t) (ht : t ≤ b.length) : ∀ (k : Nat) (time : Int) (out : List Int), out.length ≤ 2001 →
    ordT b 2000 f t k time out = (out ++ times ((b.drop f).take (t - f)) f k time).take 2001
  | 0, time, out, ho => by simp [ordT, times, List.take_of_length_le ho]
  | k + 1, time, out, ho => by
    simp only [ordT, times]
    rw [show ((t : Int) - (f : Int)).toNat = t - f by omega, ordI_take b time (t - f) f out (by omega) ho, ordT_take b f t hf ht k _ _ (by rw [List.length_take]; omega), take_app, List.append_assoc]

/-- All bars of a row of repeats, as they are played. -/
def fullR (b : List Bar) (l : List Rep) : List Int := l.flatMap fun r => times ((b.drop r.1.toNat).take (r.2.1.toNat - r.1.toNat)) r.1 r.2.2.toNat 1

theorem ordR_take (b : List Bar) : ∀ (l : List Rep) (out : List Int), (∀ r ∈ l, RepIn b.length r) → out.length ≤ 2001 → ordR b 2000 l out = (out ++ fullR b l).take 2001
  | [], out, _, ho => by simp [ordR, fullR, List.take_of_length_le ho]
  | r :: l, out, h, ho => by
    obtain ⟨h1, h2, h3⟩ := h r (by simp)
    simp only [ordR]
    have e1 : r.1 = ((r.1.toNat : Nat) : Int) := by omega
    have e2 : r.2.1 = ((r.2.1.toNat : Nat) : Int) := by omega
    have key := ordT_take b r.1.toNat r.2.1.toNat (by omega) (by omega) r.2.2.toNat 1 out ho
    rw [← e1, ← e2] at key
    rw [key, ordR_take b l _ (fun r hr => h r (List.mem_cons_of_mem _ hr)) (by rw [List.length_take]; omega), take_app]
    simp [fullR]

end Go.Ev.B

set_option linter.unusedVariables false
set_option linter.unusedSimpArgs false
namespace Go.Ev.B
open Go Go.Ev Go.Proofs
theorem repGo_app : ∀ (l : List Bar) (i op : Int) (out : List Rep), repGo i op out l = (out ++ (repGo i op [] l).1, (repGo i op [] l).2)
  | [], i, op, out => by simp [repGo]
  | x :: l, i, op, out => by
    simp only [repGo, List.nil_append]
    cases decide (cond x.2.2.2.2 i op < 0)
    · cases decide (x.2.2.1 > 0)
      · simp only [cond_false]; exact repGo_app l _ _ out
      · simp only [cond_false, cond_true]
        rw [repGo_app l _ _ (out ++ _), repGo_app l _ _ [_]]; simp
    · simp only [cond_true]
      rw [repGo_app l _ _ (out ++ _), repGo_app l _ _ [_]]; simp

/-- What the rules say of the first bar, and of those behind it. -/
theorem rulesGo_cons {op : Bool} {p : Int} {x : Bar} {l : List Bar} (h : rulesGo op p (x :: l) = 0) : (x.2.2.2.2 = true → op = false) ∧ (x.2.2.2.2 = false → op = false → x.2.2.1 = 0 ∧ x.2.2.2.1 = 0) ∧
    (op = true → p ≤ x.2.2.2.1) ∧ rulesGo ((op || x.2.2.2.2) && x.2.2.1 == 0) x.2.2.2.1 l = 0 := by
  have hbf : barFault x = 0 := rulesGo_bars _ _ _ h x (by simp)
  have hz : (barFault x != 0) = false := by simp [hbf]
  simp only [rulesGo, hz, cond_false] at h
  generalize hq : (x.2.2.2.2 && op || !x.2.2.2.2 && !op && (x.2.2.1 != 0 || x.2.2.2.1 != 0) || op && decide (x.2.2.2.1 < p)) = q at h
  cases q with
  | true => cases h
  | false =>
    simp only [Bool.or_eq_false_iff] at hq
    obtain ⟨⟨q1, q2⟩, q3⟩ := hq
    refine ⟨fun ho => ?_, fun ho hop => ?_, fun hop => ?_, h⟩
    · rw [ho] at q1; simpa using q1
    · rw [ho, hop] at q2; simpa using q2
    · rw [hop] at q3; simpa using q3

theorem open_run : ∀ (l : List Bar) (j : Nat) (opn p : Int), 0 ≤ opn → rulesGo true p l = 0 → (repGo j opn [] l).2 < 0 →
    ∃ q, takeTo l = some q ∧ repGo j opn [] l = ((opn, ((j + q.1.length : Nat) : Int), q.2.2) :: (repGo ((j + q.1.length : Nat) : Int) (-1) [] q.2.1).1, (repGo ((j + q.1.length : Nat) : Int) (-1) [] q.2.1).2) ∧ ∃ p', rulesGo false p' q.2.1 = 0
  | [], j, opn, p, h0, h, hn => by simp [repGo] at hn; omega
  | x :: l, j, opn, p, h0, h, hn => by
    have hx := barFault_ok (rulesGo_bars _ _ _ h x (by simp))
    obtain ⟨r1, r2, r3, r4⟩ := rulesGo_cons h
    have hO : x.2.2.2.2 = false := by
      cases hc : x.2.2.2.2 with
      | false => rfl
      | true => have := r1 hc; cases this
    have e1 : (j : Int) + 1 = ((j + 1 : Nat) : Int) := by simp
    have hlt : decide (opn < 0) = false := by simp; omega
    simp only [repGo, hO, cond_false, hlt, List.nil_append] at hn ⊢
    simp only [Bool.true_or, Bool.true_and] at r4
    simp only [takeTo]
    cases hcl : decide (x.2.2.1 > 0) with
    | false =>
      have hc0 : x.2.2.1 = 0 := by have := of_decide_eq_false hcl; omega
      have hc1 : (x.2.2.1 == 0) = true := by simp [hc0]
      rw [hcl] at hn
      rw [hc1] at r4 ⊢
      simp only [cond_false, cond_true] at hn ⊢
      rw [e1] at hn ⊢
      obtain ⟨q, g1, g2, g3⟩ := open_run l (j + 1) opn x.2.2.2.1 h0 r4 hn
      refine ⟨(x :: q.1, q.2.1, q.2.2), by rw [g1]; rfl, ?_, g3⟩
      rw [g2]
      simp only [List.length_cons]
      rw [show j + 1 + q.1.length = j + (q.1.length + 1) by omega]
    | true =>
      have hc0 : 0 < x.2.2.1 := of_decide_eq_true hcl
      have hc1 : (x.2.2.1 == 0) = false := by simp; omega
      rw [hcl] at hn
      rw [hc1] at r4 ⊢
      simp only [cond_false, cond_true] at hn ⊢
      refine ⟨([x], l, x.2.2.1), rfl, ?_, _, r4⟩
      rw [repGo_app]
      simp

end Go.Ev.B

set_option linter.unusedVariables false
set_option linter.unusedSimpArgs false
namespace Go.Ev.B
open Go Go.Ev Go.Proofs
theorem atTime_one (t : Int) (i : Int) (x : Bar) (h : x.2.2.2.1 = 0) : atTime t i [x] = [i] := by
  simp [atTime, h]

/-- The reference plays the same bars. -/
theorem reps_ref (b : List Bar) : ∀ (n i : Nat) (l : List Bar) (p : Int), b.drop i = l → l.length ≤ n → rulesGo false p l = 0 → (repGo i (-1) [] l).2 < 0 → refGo n i l = some (fullR b (repGo i (-1) [] l).1)
  | 0, i, [], p, hl, hn, h, hr => rfl
  | 0, i, x :: l, p, hl, hn, h, hr => by simp at hn
  | n + 1, i, [], p, hl, hn, h, hr => rfl
  | n + 1, i, x :: l, p, hl, hn, h, hr => by
    obtain ⟨r1, r2, r3, r4⟩ := rulesGo_cons h
    have hl' := drop_next hl
    have hx := barFault_ok (rulesGo_bars _ _ _ h x (by simp))
    have e1 : (i : Int) + 1 = ((i + 1 : Nat) : Int) := by simp
    simp only [List.length_cons] at hn
    cases hO : x.2.2.2.2 with
    | false =>
      obtain ⟨hc, he⟩ := r2 hO rfl
      rw [hO] at r4
      simp only [Bool.false_or, Bool.false_and] at r4
      have hlt : decide ((-1 : Int) < 0) = true := rfl
      simp only [repGo, hO, cond_false, hlt, cond_true, List.nil_append] at hr ⊢
      rw [e1, repGo_app] at hr
      have ih := reps_ref b n (i + 1) l _ hl' (by omega) r4 hr
      simp only [refGo, hO, Bool.not_false, cond_true]
      rw [e1, ih, repGo_app l _ _ [_]]
      simp only [Option.map_some, fullR, List.cons_append, List.nil_append, List.flatMap_cons]
      have hk : ((i + 1 : Nat) : Int).toNat - (i : Int).toNat = 1 := by omega
      have hi : ((i : Int)).toNat = i := by omega
      rw [hk, hi, hl]
      have h1 : (1 : Int).toNat = 1 := rfl
      simp only [h1, List.take_succ_cons, List.take_zero, times, atTime_one _ _ x he, List.append_nil, List.cons_append, List.nil_append]
    | true =>
      have key : ∃ q, takeTo (x :: l) = some q ∧ repGo i (-1) [] (x :: l) = (((i : Int), ((i + q.1.length : Nat) : Int), q.2.2) :: (repGo ((i + q.1.length : Nat) : Int) (-1) [] q.2.1).1, (repGo ((i + q.1.length : Nat) : Int) (-1) [] q.2.1).2) ∧ ∃ p', rulesGo false p' q.2.1 = 0 := by
        have h0 : decide ((i : Int) < 0) = false := by simp
        simp only [repGo, hO, cond_true, h0, cond_false, List.nil_append] at hr ⊢
        rw [hO] at r4
        simp only [Bool.or_true, Bool.true_and] at r4
        cases hcl : decide (x.2.2.1 > 0) with
        | false =>
          have hc0 : x.2.2.1 = 0 := by have := of_decide_eq_false hcl; omega
          have hc1 : (x.2.2.1 == 0) = true := by simp [hc0]
          rw [hcl] at hr
          rw [hc1] at r4
          simp only [cond_false] at hr ⊢
          rw [e1] at hr ⊢
          obtain ⟨q, g1, g2, g3⟩ := open_run l (i + 1) i _ (by omega) r4 hr
          refine ⟨(x :: q.1, q.2.1, q.2.2), by simp only [takeTo, hc1, cond_true, g1]; rfl, ?_, g3⟩
          rw [g2]
          simp only [List.length_cons]
          rw [show i + 1 + q.1.length = i + (q.1.length + 1) by omega]
        | true =>
          have hc0 : 0 < x.2.2.1 := of_decide_eq_true hcl
          have hc1 : (x.2.2.1 == 0) = false := by simp; omega
          rw [hc1] at r4
          refine ⟨([x], l, x.2.2.1), by simp only [takeTo, hc1, cond_false], ?_, _, r4⟩
          simp only [cond_true]
          rw [repGo_app]
          simp
      obtain ⟨q, g1, g2, p', g3⟩ := key
      obtain ⟨s1, s2, s3, _⟩ := takeTo_split _ q g1
      rw [g2] at hr ⊢
      have hd : b.drop (i + q.1.length) = q.2.1 := by
        rw [← List.drop_drop, hl, s1]; simp
      have hlen : l.length + 1 = q.1.length + q.2.1.length := by
        have := congrArg List.length s1; simpa using this
      have ih := reps_ref b n (i + q.1.length) q.2.1 p' hd (by omega) g3 hr
      simp only [refGo, hO, Bool.not_true, cond_false, g1]
      have e2 : (i : Int) + (q.1.length : Int) = ((i + q.1.length : Nat) : Int) := by simp
      rw [e2, ih]
      simp only [Option.map_some, fullR, List.flatMap_cons]
      have hk : ((i + q.1.length : Nat) : Int).toNat - (i : Int).toNat = q.1.length := by omega
      have hi : ((i : Int)).toNat = i := by omega
      rw [hk, hi, hl, s1]
      simp

theorem fault_inr {l : List Bar} {op : Bool} {p e m : Int} {w W : Bool} (hp : op = true → p = e) (h : faultGo op e m w l = .inr W) : rulesGo op p l = 0 := by
  refine Classical.byContradiction fun hn => ?_
  rw [fault_rules l op p e m w hp hn] at h
  cases h

/-- What is known of bars whose rules are right. -/
theorem rules_right {b : List Bar} (hr : rulesFault b = 0) : ∃ W, faultGo false 0 0 false b = .inr (decide (0 ≤ (repGo 0 (-1) [] b).2) || W) ∧ (repGo 0 (-1) [] b).1.any (repBad b) = W := by
  obtain ⟨W, h1, h2⟩ := fault_reps b b 0 false (-1) 0 0 0 false [] rfl rfl (by omega) (by simp) hr
  refine ⟨W, ?_, ?_⟩
  · simpa using h1
  · simpa using h2

theorem right_ref {b : List Bar} (hb : b.length ≤ 300) (hr : rulesFault b = 0) (ho : (repGo 0 (-1) [] b).2 < 0) : refGo 300 0 b = some (fullR b (repGo 0 (-1) [] b).1) := by
  have := reps_ref b 300 0 b 0 rfl hb hr ho
  simpa using this

theorem right_closes {b : List Bar} (hr : rulesFault b = 0) : ∀ x ∈ b, 0 ≤ x.2.2.1 ∧ x.2.2.1 ≤ 9 := by
  intro x hx
  have := barFault_ok (rulesGo_bars b _ _ hr x hx)
  omega

theorem refOk_of {b : List Bar} (hb : b.length ≤ 300) (hr : rulesFault b = 0) (ho : (repGo 0 (-1) [] b).2 < 0) : refOk b = true := by
  unfold refOk
  rw [right_ref hb hr ho]
  have := right_closes hr
  simp only [Bool.and_eq_true, List.all_eq_true, decide_eq_true_eq, Option.isSome_some]
  exact ⟨⟨hb, trivial⟩, fun x hx => this x hx⟩

theorem r9 : R9 := by
  intro b _
  rw [f9_run]
  unfold barsFault
  cases h1 : ((b.length : Int) == 0) with
  | true => rfl
  | false =>
  cases h2 : decide ((b.length : Int) > 300) with
  | true => rfl
  | false =>
  have hb : b.length ≤ 300 := by have := of_decide_eq_false h2; omega
  have := fault_run b hb b.length 0 false 0 0 false (by omega)
  rw [show ((0 : Nat) : Int) = 0 from rfl, List.drop_zero] at this
  simp only [cond_false]
  rw [this]
  cases hf : faultGo false 0 0 false b with
  | inl e => rfl
  | inr w =>
    have hr : rulesFault b = 0 := fault_inr (by simp) hf
    simp only [endF]
    cases w with
    | true => rfl
    | false =>
      obtain ⟨W, g1, g2⟩ := rules_right hr
      rw [hf] at g1
      have g3 : (decide (0 ≤ (repGo 0 (-1) [] b).2) || W) = false := by injection g1 with g1; exact g1.symm
      simp only [Bool.or_eq_false_iff] at g3
      have ho : (repGo 0 (-1) [] b).2 < 0 := by have := of_decide_eq_false g3.1; omega
      rw [refOk_of hb hr ho]
      simp only [cond_true, cond_false]
      cases decide (((orderOf b).length : Int) > 2000) <;> rfl

theorem repGo_in0 (b : List Bar) : ∀ r ∈ (repGo 0 (-1) [] b).1, RepIn b.length r := by
  have hin := repGo_in b.length b 0 (-1) [] (by omega) (by simp) (by simp)
  simpa using hin

theorem order_full (b : List Bar) : order b (repGo 0 (-1) [] b).1 2000 = (fullR b (repGo 0 (-1) [] b).1).take 2001 := by
  unfold order
  rw [ordR_take b _ [] (repGo_in0 b) (by simp)]
  simp

/-- Both find the same faults. -/
theorem check_fault (b : List Bar) : checkBars b = barsFault b ∧ (checkBars b = 0 → played b = orderOf b ∧ refOk b = true) := by
  unfold checkBars barsFault
  cases h1 : ((b.length : Int) == 0) with
  | true => exact ⟨rfl, fun h => by cases h⟩
  | false =>
  cases h2 : decide ((b.length : Int) > 300) with
  | true => exact ⟨rfl, fun h => by cases h⟩
  | false =>
  have hb : b.length ≤ 300 := by have := of_decide_eq_false h2; omega
  simp only [cond_false]
  cases h3 : rulesFault b != 0 with
  | true =>
    have hne : rulesFault b ≠ 0 := by simpa using h3
    have := fault_rules b false 0 0 0 false (by simp) hne
    rw [this]
    exact ⟨rfl, fun h => absurd h hne⟩
  | false =>
    have hr : rulesFault b = 0 := by simpa using h3
    obtain ⟨W, g1, g2⟩ := rules_right hr
    rw [g1]
    simp only [cond_false]
    unfold repeats
    rw [g2]
    cases W with
    | true => simp
    | false =>
      simp only [cond_false, Bool.or_false]
      by_cases ho : (repGo 0 (-1) [] b).2 < 0
      · have hd1 : decide ((repGo 0 (-1) [] b).2 < 0) = true := by simp [ho]
        have hd2 : decide (0 ≤ (repGo 0 (-1) [] b).2) = false := by simp; omega
        have hof : orderOf b = fullR b (repGo 0 (-1) [] b).1 := by unfold orderOf; rw [right_ref hb hr ho]; rfl
        rw [hd1, hd2]
        simp only [Bool.not_true, cond_false, order_full, hof]
        have hlen : decide ((((fullR b (repGo 0 (-1) [] b).1).take 2001).length : Int) > 2000) = decide (((fullR b (repGo 0 (-1) [] b).1).length : Int) > 2000) := by
          rw [List.length_take]
          congr 1
          apply propext
          omega
        rw [hlen]
        cases hg : decide (((fullR b (repGo 0 (-1) [] b).1).length : Int) > 2000) with
        | true => exact ⟨rfl, fun h => by cases h⟩
        | false =>
          refine ⟨rfl, fun _ => ⟨?_, refOk_of hb hr ho⟩⟩
          unfold played repeats
          rw [g2]
          simp only [cond_false]
          rw [order_full, List.take_of_length_le (by have := of_decide_eq_false hg; omega)]
      · have hd1 : decide ((repGo 0 (-1) [] b).2 < 0) = false := by simp; omega
        have hd2 : decide (0 ≤ (repGo 0 (-1) [] b).2) = true := by simp; omega
        rw [hd1, hd2]
        simp

end Go.Ev.B

set_option linter.unusedVariables false
set_option linter.unusedSimpArgs false
namespace Go.Ev.B
open Go Go.Ev Go.Proofs
theorem long_eq {x : Bar} (h : barFault x = 0) : long x = barUnits x ∧ 1 ≤ long x ∧ long x ≤ 3072 := by
  obtain ⟨h1, h2, h3, _⟩ := barFault_ok h
  unfold long barUnits
  generalize x.1 = a at *
  generalize x.2.1 = u at *
  have w1 : wrap .i64 (a * 192) = a * 192 := wrap_in (by omega) (by omega)
  rw [w1]
  rcases h3 with rfl | rfl | rfl | rfl | rfl
  · have e1 : wrap .i64 (Int.tdiv 192 1) = 192 := by decide
    have e2 : Int.tdiv (a * 192) 1 = a * 192 := by rw [Int.tdiv_eq_ediv_of_nonneg (by omega)]; omega
    rw [e1, e2, wrap_in (by omega) (by omega)]; omega
  · have e1 : wrap .i64 (Int.tdiv 192 2) = 96 := by decide
    have e2 : Int.tdiv (a * 192) 2 = a * 96 := by rw [Int.tdiv_eq_ediv_of_nonneg (by omega)]; omega
    rw [e1, e2, wrap_in (by omega) (by omega)]; omega
  · have e1 : wrap .i64 (Int.tdiv 192 4) = 48 := by decide
    have e2 : Int.tdiv (a * 192) 4 = a * 48 := by rw [Int.tdiv_eq_ediv_of_nonneg (by omega)]; omega
    rw [e1, e2, wrap_in (by omega) (by omega)]; omega
  · have e1 : wrap .i64 (Int.tdiv 192 8) = 24 := by decide
    have e2 : Int.tdiv (a * 192) 8 = a * 24 := by rw [Int.tdiv_eq_ediv_of_nonneg (by omega)]; omega
    rw [e1, e2, wrap_in (by omega) (by omega)]; omega
  · have e1 : wrap .i64 (Int.tdiv 192 16) = 12 := by decide
    have e2 : Int.tdiv (a * 192) 16 = a * 12 := by rw [Int.tdiv_eq_ediv_of_nonneg (by omega)]; omega
    rw [e1, e2, wrap_in (by omega) (by omega)]; omega

/-- Sums of lengths. -/
theorem sum_eq : ∀ (l : List Bar) (n : Int), (∀ x ∈ l, barFault x = 0) → 0 ≤ n → n + 3072 * l.length ≤ 1000000000 → sumW long l n = sumW barUnits l n ∧ 0 ≤ sumW long l n
  | [], n, h, h0, hb => ⟨rfl, h0⟩
  | x :: l, n, h, h0, hb => by
    obtain ⟨e, h1, h2⟩ := long_eq (h x (by simp))
    simp only [sumW, ← e]
    simp only [List.length_cons] at hb
    rw [wrap_in (by omega) (by omega)]
    exact sum_eq l _ (fun y hy => h y (by simp [hy])) (by omega) (by omega)

theorem beg_eq : ∀ (l : List Bar) (n : Int), (∀ x ∈ l, barFault x = 0) → 0 ≤ n → n + 3072 * l.length ≤ 1000000000 →
    begW long (fun n => lowest n 192) l n = begW barUnits (fun n => lowestR n 192) l n
  | [], n, h, h0, hb => rfl
  | x :: l, n, h, h0, hb => by
    obtain ⟨e, h1, h2⟩ := long_eq (h x (by simp))
    simp only [begW, ← e]
    simp only [List.length_cons] at hb
    rw [wrap_in (by omega) (by omega), beg_eq l _ (fun y hy => h y (by simp [hy])) (by omega) (by omega), lowest_pos h0]

theorem right_bars {b : List Bar} (h : checkBars b = 0) : ∀ x ∈ b, barFault x = 0 := by
  obtain ⟨_, _, k3, _⟩ := checkBars_ok h
  exact rulesGo_bars b _ _ k3

theorem pick_mem {b : List Bar} {l : List Int} (h : ∀ x ∈ l, 0 ≤ x ∧ x < b.length) : ∀ y ∈ pick' b l, y ∈ b := by
  intro y hy
  unfold pick' at hy
  obtain ⟨x, hx, rfl⟩ := List.mem_map.1 hy
  obtain ⟨h1, h2⟩ := h x hx
  rw [getI b x _ h1 (by omega)]
  exact List.getElem_mem (by omega)

theorem pLong_eq {b : List Bar} (h : checkBars b = 0) : pLong b = (longOf b, 0) := by
  obtain ⟨k1, k2, k3, k4, k5⟩ := checkBars_ok h
  obtain ⟨e, _⟩ := (check_fault b).2 h
  have hs := sum_eq (pick' b (played b)) 0 (fun x hx => right_bars h x (pick_mem (played_in h) x hx)) (by omega) (by
    have : (pick' b (played b)).length = (played b).length := by simp [pick']
    have k5' : (played b).length ≤ 2000 := k5
    omega)
  unfold pLong longOf
  rw [h, ← e, ← hs.1, lowest_pos hs.2]; rfl

theorem pBegins_eq {b : List Bar} (h : checkBars b = 0) : pBegins b = (beginsOf b, 0) := by
  obtain ⟨k1, k2, k3, k4, k5⟩ := checkBars_ok h
  unfold pBegins beginsOf
  rw [h, beg_eq b 0 (right_bars h) (by omega) (by omega)]; rfl

theorem pOrder_eq {b : List Bar} (h : checkBars b = 0) : pOrder b = (orderOf b, 0) := by
  unfold pOrder
  rw [h, ((check_fault b).2 h).1]; rfl

theorem ref_right {b : List Bar} (h : (barsFault b == 0) = true) : checkBars b = 0 := by
  rw [(check_fault b).1]; simpa using h

theorem longOf_run (b : List Bar) (l : List Int) (hl : l.length ≤ 2000) (hin : ∀ x ∈ l, 0 ≤ x ∧ x < b.length) (hu : ∀ x ∈ b, x.2.1 ≠ 0) (c d : Int) : ∀ (k i : Nat) (n : Int), i + k = l.length →
    f11h0 b n l.length i c d l = some ⟨[.dat tFrac (lowestR (sumW barUnits (pick' b (l.drop i)) n) 192)], []⟩ := by
  intro k
  induction k with
  | zero =>
    intro i n hi
    rw [f11h0_eq, dlt_not (by omega), dnil (by omega)]; rfl
  | succ k ih =>
    intro i n hi
    have hlt : i < l.length := by omega
    obtain ⟨h1, h2⟩ := hin _ (List.getElem_mem hlt)
    have q0 : decide ((Int.toNat (i : Int)) < l.length) = true := by simpa using hlt
    rw [f11h0_eq, dlt hlt, dle0, q0, getN _ _ _ hlt, dcons hlt, wsucc (by omega)]
    generalize l[i] = x at *
    have q1 : decide ((0 : Int) ≤ x) = true := by simpa using h1
    have q2 : decide (x < (b.length : Int)) = true := by simpa using h2
    have q3 : ((List.getD b (Int.toNat x) (Tc.dflt tBar)).2.1 != 0) = true := by
      rw [getI b x _ h1 (by omega)]
      simpa using hu _ (List.getElem_mem (by omega))
    rw [q1, q2, q3]
    simp only [cond_true]
    rw [ih (i + 1) _ (by omega)]; rfl

theorem r11 : R11 := by
  intro a0 h
  have h0 := ref_right h
  obtain ⟨k1, k2, k3, k4, k5⟩ := checkBars_ok h0
  obtain ⟨e, e2⟩ := (check_fault a0).2 h0
  rw [f11_run, e2]
  have := longOf_run a0 (orderOf a0) (by rw [← e]; exact k5) (by rw [← e]; exact played_in h0) (units_ok k3) 0 0 (orderOf a0).length 0 0 (by omega)
  rw [show ((0 : Nat) : Int) = 0 from rfl] at this
  simp only [cond_true]
  exact this

theorem begOf_run (b : List Bar) (hb : b.length ≤ 300) (hu : ∀ x ∈ b, x.2.1 ≠ 0) : ∀ (k i : Nat) (n : Int) (out : List Frac), i + k = b.length → out.length = i →
    f12h0 n b b.length i out = some ⟨[.slc 0], [(0, .arr tFrac (out ++ begW barUnits (fun n => lowestR n 192) (b.drop i) n))]⟩ := by
  intro k
  induction k with
  | zero =>
    intro i n out hi ho
    rw [f12h0_eq, dlt_not (by omega), dnil (by omega)]
    simp [begW]
  | succ k ih =>
    intro i n out hi ho
    have hlt : i < b.length := by omega
    have hx := hu _ (List.getElem_mem hlt)
    have hg : decide ((out.length + List.length [lowestR n 192]) * 16 ≤ 140737488355328) = true := by simp; omega
    rw [f12h0_eq, dlt hlt, dle0, hg, getN _ _ _ hlt, dcons hlt, wsucc (by omega)]
    generalize b[i] = x at *
    have hq : (x.1, x.2.1, x.2.2.1, x.2.2.2.1, x.2.2.2.2) = x := rfl
    have q3 : (x.2.1 != 0) = true := by simpa using hx
    simp only [hq, q3, cond_true]
    rw [show ((192 : Int) == 192) = true from rfl, cond_true, ih (i + 1) _ _ (by omega) (by simp [ho])]
    simp [begW]

theorem r12 : R12 := by
  intro a0 h
  have h0 := ref_right h
  obtain ⟨k1, k2, k3, k4, k5⟩ := checkBars_ok h0
  rw [f12_run]
  have := begOf_run a0 k2 (units_ok k3) a0.length 0 0 [] (by omega) rfl
  rw [show ((0 : Nat) : Int) = 0 from rfl] at this
  exact this

end Go.Ev.B

set_option linter.unusedVariables false
set_option linter.unusedSimpArgs false
namespace Go.Ev.B
open Go Go.Ev Go.Proofs
theorem atOk_t {k a : Int} (h1 : 0 ≤ a) (h2 : a + k ≤ 1099511627776) : atOk k a = true := atOk_iff.2 ⟨h1, h2⟩
theorem nextAt_s {a : Int} (h1 : 0 ≤ a) (h2 : a + 1 ≤ 1099511627776) : nextAt a = a + 1 := wrap_in (by omega) (by omega)
theorem rangeAt_s {a lo hi : Int} (h0 : lo ≤ hi) (h1 : 0 ≤ a) (h2 : a + 1 ≤ 1099511627776) : rangeAt a lo hi = a + 1 := by
  unfold rangeAt
  rw [condF (by simp; omega)]; exact nextAt_s h1 h2
theorem rangeS_in (L : List Int) (a : Int) {lo hi : Int} (h : lo ≤ hi) (h1 : -1000000000 ≤ lo) (h2 : hi ≤ 1000000000) : lo ≤ rangeS L a lo hi ∧ rangeS L a lo hi ≤ hi := by
  unfold rangeS
  rw [condF (by simp; omega), wrap_in (x := hi - lo) (by omega) (by omega), wrap_in (x := hi - lo + 1) (by omega) (by omega)]
  have := next_range L a (n := hi - lo + 1) (by omega) (by omega)
  rw [wrap_in (by omega) (by omega)]; omega
theorem oddAt (L : List Int) {a lo hi : Int} (h0 : lo ≤ hi) (h1 : 0 ≤ a) (h2 : a + 2 ≤ 1099511627776) : (oddS L a lo hi).1 = a + 2 := by
  unfold oddS
  cases next L a 12 == 0
  · simp only [cond_false]; rw [nextAt_s h1 (by omega), rangeAt_s h0 (by omega) (by omega)]; omega
  · simp only [cond_true]; rw [nextAt_s h1 (by omega), nextAt_s (by omega) (by omega)]; omega
theorem len_t {n m : Nat} (h : n ≤ m) : decide (n ≤ m) = true := dT h

theorem rb_run2 {Q : Fr → Prop} (L : List Int) (n i m t : Int) (hm : m ≤ 3) : ∀ (k : Nat) (j e at_ : Int) (out : List Bar), j + k = m → 0 ≤ j → 0 ≤ at_ → at_ + 3 * k + 20 ≤ 1099511627776 → out.length + k ≤ 100 →
    (∀ (at' : Int) (out' : List Bar), at_ ≤ at' → at' ≤ at_ + 3 * k → out'.length = out.length + k → Ends Q (f17h0 n (wrap .i64 (i + 1)) L at' out')) → Ends Q (f17h2 m t e n i m j L at_ out)
  | 0, j, e, at_, out, hj, h0, h1, h2, ho, H => by
    rw [f17h2_eq, dF (by omega), cond_false]
    exact H at_ out (by omega) (by omega) (by simp)
  | k + 1, j, e, at_, out, hj, h0, h1, h2, ho, H => by
    rw [f17h2_eq, dT (by omega), cond_true]
    have n1 : nextAt at_ = at_ + 1 := nextAt_s (by omega) (by omega)
    have n2 : nextAt (at_ + 1) = at_ + 1 + 1 := nextAt_s (by omega) (by omega)
    have n3 : nextAt (at_ + 1 + 1) = at_ + 1 + 1 + 1 := nextAt_s (by omega) (by omega)
    have wj : wrap .i64 (j + 1) = j + 1 := wrap_in (by omega) (by omega)
    simp only [n1, n2, n3, wj]
    refine ends_if (atOk_t (by omega) (by omega)) ?_
    have next : ∀ (e' at' : Int) (x : Bar), at_ ≤ at' → at' ≤ at_ + 3 → Ends Q (f17h2 m t e' n i m (j + 1) L at' (out ++ [x])) := fun e' at' x g1 g2 =>
      rb_run2 L n i m t hm k (j + 1) e' at' (out ++ [x]) (by omega) (by omega) (by omega) (by omega) (by simp; omega) fun at'' out'' k1 k2 k3 =>
        H at'' out'' (by omega) (by omega) (by rw [k3]; simp; omega)
    have hl : ∀ x : Bar, decide ((out.length + List.length [x]) * 40 ≤ 140737488355328) = true := fun x => len_t (by simp; omega)
    refine ends_cond (fun _ => ends_if (atOk_t (by omega) (by omega)) ?_) (fun _ => ?_)
    · refine ends_cond (fun _ => ?_) (fun _ => ?_)
      · exact ends_cond (fun _ => ends_if (hl _) (next _ _ _ (by omega) (by omega))) (fun _ => ends_if (hl _) (next _ _ _ (by omega) (by omega)))
      · exact ends_cond (fun _ => ends_if (hl _) (next _ _ _ (by omega) (by omega))) (fun _ => ends_if (hl _) (next _ _ _ (by omega) (by omega)))
    · exact ends_cond (fun _ => ends_if (hl _) (next _ _ _ (by omega) (by omega))) (fun _ => ends_if (hl _) (next _ _ _ (by omega) (by omega)))

theorem rb_run0 (L : List Int) (n : Int) (hn : n ≤ 4) : ∀ (k : Nat) (i at_ : Int) (out : List Bar), i + k = n → 0 ≤ i → 0 ≤ at_ → at_ + 100 * k + 100 ≤ 1099511627776 → out.length + 3 * k ≤ 90 →
    Ends (fun f => ∃ (at' : Int) (out' : List Bar), f = ⟨[.slc 2], [(0, .box [.dat (.slice tI) L, .dat tI at']), (2, .arr tBar out')]⟩ ∧ at_ ≤ at' ∧ at' ≤ at_ + 20 * k ∧ out.length + k ≤ out'.length ∧ out'.length ≤ out.length + 3 * k) (f17h0 n i L at_ out)
  | 0, i, at_, out, hi, h0, h1, h2, ho => by
    rw [f17h0_eq, dF (by omega), cond_false]
    exact ends_some ⟨at_, out, rfl, by omega, by omega, by omega, by omega⟩
  | k + 1, i, at_, out, hi, h0, h1, h2, ho => by
    rw [f17h0_eq, dT (by omega), cond_true]
    have n1 : nextAt at_ = at_ + 1 := nextAt_s (by omega) (by omega)
    have n2 : nextAt (at_ + 1) = at_ + 1 + 1 := nextAt_s (by omega) (by omega)
    have n3 : nextAt (at_ + 1 + 1) = at_ + 1 + 1 + 1 := nextAt_s (by omega) (by omega)
    have r1 : rangeAt (at_ + 1) 1 3 = at_ + 1 + 1 := rangeAt_s (by omega) (by omega) (by omega)
    have r2 : rangeAt (at_ + 1 + 1) 2 3 = at_ + 1 + 1 + 1 := rangeAt_s (by omega) (by omega) (by omega)
    have wi : wrap .i64 (i + 1) = i + 1 := wrap_in (by omega) (by omega)
    simp only [n1, n2, n3, r1, r2, wi]
    have rest : ∀ (at' : Int) (out' : List Bar), at_ ≤ at' → at' ≤ at_ + 20 → out.length + 1 ≤ out'.length → out'.length ≤ out.length + 3 →
        Ends (fun f => ∃ (at' : Int) (out' : List Bar), f = ⟨[.slc 2], [(0, .box [.dat (.slice tI) L, .dat tI at']), (2, .arr tBar out')]⟩ ∧ at_ ≤ at' ∧ at' ≤ at_ + 20 * (k + 1 : Nat) ∧ out.length + (k + 1) ≤ out'.length ∧ out'.length ≤ out.length + 3 * (k + 1)) (f17h0 n (i + 1) L at' out') := by
      intro at' out' g1 g2 g3 g4
      refine ends_mono (rb_run0 L n hn k (i + 1) at' out' (by omega) (by omega) (by omega) (by omega) (by omega)) ?_
      rintro f ⟨a, o, e, k1, k2, k3, k4⟩
      exact ⟨a, o, e, by omega, by omega, by omega, by omega⟩
    refine ends_if (atOk_t (by omega) (by omega)) (ends_cond (fun _ => ?_) (fun _ => ?_))
    · exact ends_if (atOk_t (by omega) (by omega)) (ends_if (len_t (by simp; omega)) (rest _ _ (by omega) (by omega) (by simp) (by simp)))
    · refine ends_if (atOk_t (by omega) (by omega)) (ends_if (atOk_t (by omega) (by omega)) ?_)
      obtain ⟨m1, m2⟩ := rangeS_in L (at_ + 1) (lo := 1) (hi := 3) (by omega) (by omega) (by omega)
      generalize rangeS L (at_ + 1) 1 3 = m at *
      refine rb_run2 L n i m _ m2 m.toNat 0 0 _ out (by omega) (by omega) (by omega) (by omega) (by omega) fun at' out' g1 g2 g3 => ?_
      rw [wi]
      exact rest _ _ (by omega) (by omega) (by omega) (by omega)

theorem rb_spec (L : List Int) (at_ : Int) (h : atOk 1000 at_ = true) : (at_ ≤ (rightBars L at_).1 ∧ (rightBars L at_).1 ≤ at_ + 200 ∧ 1 ≤ (rightBars L at_).2.length ∧ (rightBars L at_).2.length ≤ 12) ∧
    I17.run ⟨[.ptr 0 0], [(0, .box [.dat (.slice tI) L, .dat tI at_])]⟩ = some ⟨[.slc 2], [(0, .box [.dat (.slice tI) L, .dat tI (rightBars L at_).1]), (2, .arr tBar (rightBars L at_).2)]⟩ := by
  have h1 := atOk_iff.1 h
  refine Classical.epsilon_spec (p := fun p : Int × List Bar => (at_ ≤ p.1 ∧ p.1 ≤ at_ + 200 ∧ 1 ≤ p.2.length ∧ p.2.length ≤ 12) ∧ I17.run ⟨[.ptr 0 0], [(0, .box [.dat (.slice tI) L, .dat tI at_])]⟩ = some ⟨[.slc 2], [(0, .box [.dat (.slice tI) L, .dat tI p.1]), (2, .arr tBar p.2)]⟩) ?_
  have r1 : rangeAt at_ 1 4 = at_ + 1 := rangeAt_s (by omega) (by omega) (by omega)
  obtain ⟨m1, m2⟩ := rangeS_in L at_ (lo := 1) (hi := 4) (by omega) (by omega) (by omega)
  obtain ⟨f, e, a, o, e2, k1, k2, k3, k4⟩ := rb_run0 L (rangeS L at_ 1 4) m2 (rangeS L at_ 1 4).toNat 0 (at_ + 1) [] (by omega) (by omega) (by omega) (by omega) (by simp; omega)
  refine ⟨(a, o), ⟨by simp; omega, by simp; omega, by simp at k3 ⊢; omega, by simp at k4 ⊢; omega⟩, ?_⟩
  rw [f17_run, atOk_t (by omega) (by omega), cond_true, r1, e, e2]

theorem r17 : R17 := fun L at_ h => (rb_spec L at_ h).2

end Go.Ev.B

set_option linter.unusedVariables false
set_option linter.unusedSimpArgs false
namespace Go.Ev.B
open Go Go.Ev Go.Proofs
theorem atOk_and {k a : Int} {p q : Bool} (h1 : 0 ≤ a) (h2 : a + k ≤ 1099511627776) (hp : p = true) (hq : q = true) : (atOk k a && p && q) = true := by
  rw [atOk_t h1 h2, hp, hq]; rfl

theorem bars_ex (L : List Int) (at_ : Int) (h : atOk 2000 at_ = true) : ∃ p : Int × List Bar, (at_ ≤ p.1 ∧ p.1 ≤ at_ + 300 ∧ p.2.length ≤ 12) ∧
    I4.run ⟨[.ptr 0 0], [(0, .box [.dat (.slice tI) L, .dat tI at_])]⟩ = some ⟨[.slc 2], [(0, .box [.dat (.slice tI) L, .dat tI p.1]), (2, .arr tBar p.2)]⟩ := by
  have h1 := atOk_iff.1 h
  obtain ⟨⟨b1, b2, b3, b4⟩, _⟩ := rb_spec L at_ (atOk_t (by omega) (by omega))
  have key : Ends (fun f => ∃ (at' : Int) (out' : List Bar), f = ⟨[.slc 2], [(0, .box [.dat (.slice tI) L, .dat tI at']), (2, .arr tBar out')]⟩ ∧ at_ ≤ at' ∧ at' ≤ at_ + 300 ∧ out'.length ≤ 12)
      (I4.run ⟨[.ptr 0 0], [(0, .box [.dat (.slice tI) L, .dat tI at_])]⟩) := by
    rw [f4_run]
    generalize rightBars L at_ = p at *
    obtain ⟨a, out⟩ := p
    simp only at b1 b2 b3 b4 ⊢
    obtain ⟨i1, i2⟩ := next_range L (nextAt a) (n := (out.length : Int)) (by omega) (by omega)
    generalize next L (nextAt a) (out.length : Int) = ix at *
    have i3 : Int.toNat ix < out.length := by omega
    generalize Int.toNat ix = ij at *
    refine ends_if (atOk_t (by omega) (by omega)) ?_
    simp (disch := omega) only [nextAt_s, oddAt, rangeAt_s, List.length_set]
    repeat' (first
      | exact ends_some ⟨_, _, rfl, by omega, by omega, by first | omega | (simp only [List.length_set, List.length_nil]; omega)⟩
      | refine ends_if (atOk_t (by omega) (by omega)) ?_
      | refine ends_if (dT (by omega)) ?_
      | refine ends_if (atOk_and (by omega) (by omega) rfl rfl) ?_
      | refine ends_cond (fun _ => ?_) (fun _ => ?_))
  obtain ⟨f, e, a, o, e2, k1, k2, k3⟩ := key
  exact ⟨(a, o), ⟨k1, k2, k3⟩, by rw [e, e2]⟩

theorem bars_spec (L : List Int) (at_ : Int) (h : atOk 2000 at_ = true) : (at_ ≤ (barsS L at_).1 ∧ (barsS L at_).1 ≤ at_ + 300 ∧ (barsS L at_).2.length ≤ 12) ∧
    I4.run ⟨[.ptr 0 0], [(0, .box [.dat (.slice tI) L, .dat tI at_])]⟩ = some ⟨[.slc 2], [(0, .box [.dat (.slice tI) L, .dat tI (barsS L at_).1]), (2, .arr tBar (barsS L at_).2)]⟩ :=
  Classical.epsilon_spec (p := fun p : Int × List Bar => (at_ ≤ p.1 ∧ p.1 ≤ at_ + 300 ∧ p.2.length ≤ 12) ∧ I4.run ⟨[.ptr 0 0], [(0, .box [.dat (.slice tI) L, .dat tI at_])]⟩ = some ⟨[.slc 2], [(0, .box [.dat (.slice tI) L, .dat tI p.1]), (2, .arr tBar p.2)]⟩) (bars_ex L at_ h)

theorem r4 : R4 := fun L at_ h => (bars_spec L at_ h).2

theorem lens {b : List Bar} (h : checkBars b = 0) : (pOrder b).1.length ≤ 1000000 ∧ (pBegins b).1.length ≤ 1000000 := by
  obtain ⟨k1, k2, k3, k4, k5⟩ := checkBars_ok h
  constructor
  · have : (pOrder b).1 = played b := by unfold pOrder; rw [h]; rfl
    rw [this]
    have k5' : (played b).length ≤ 2000 := k5
    omega
  · have : ∀ (l : List Bar) (n : Int), (begW long (fun n => lowest n 192) l n).length = l.length := by
      intro l
      induction l with
      | nil => intro n; rfl
      | cons x l ih => intro n; simp [begW, ih]
    have h2 : (pBegins b).1 = begW long (fun n => lowest n 192) b 0 := by unfold pBegins; rw [h]; rfl
    rw [h2, this]; omega

theorem frac_eq (x : Frac) : Tc.beq tFrac (x.1, x.2) (x.1, x.2) = true := by simp [Tc.beq]

theorem fault_no {b : List Bar} (h : checkBars b ≠ 0) : pOrder b = ([], checkBars b) ∧ pLong b = ((0, 0), checkBars b) ∧ pBegins b = ([], checkBars b) := by
  have hc : (checkBars b != 0) = true := by simpa using h
  unfold pOrder pLong pBegins
  rw [hc]
  exact ⟨rfl, rfl, rfl⟩

theorem bself (n : Int) : (n == n) = true := by simp

theorem law_leaf (c : List Bar) (h : checkBars c = 0) : barsFault c = 0 ∧ refOk c = true ∧ pOrder c = (orderOf c, 0) ∧ pLong c = (longOf c, 0) ∧ pBegins c = (beginsOf c, 0) ∧ (orderOf c).length ≤ 1000000 ∧ (beginsOf c).length ≤ 1000000 := by
  obtain ⟨l1, l2⟩ := lens h
  rw [pOrder_eq h] at l1
  rw [pBegins_eq h] at l2
  exact ⟨by rw [← (check_fault c).1]; exact h, ((check_fault c).2 h).2, pOrder_eq h, pLong_eq h, pBegins_eq h, l1, l2⟩

theorem law_run : ∀ (k : Nat) (c : List Bar), 600 - c.length ≤ k → c.length ≤ 592 → f3h0 c = some ⟨[.dat .bool true], []⟩
  | 0, c, h1, h2 => by omega
  | k + 1, c, h1, h2 => by
    rw [f3h0_eq]
    by_cases hp : ((c.length : Nat) : Int) > 0
    · rw [dT hp, cond_true]
      by_cases hq : ((c.length : Nat) : Int) < 297
      · rw [dT hq, cond_true, len_t (by omega), cond_true]
        exact law_run k (c ++ c) (by simp; omega) (by simp; omega)
      · rw [dF hq, cond_false]
        by_cases h : checkBars c = 0
        · obtain ⟨g1, g2, g3, g4, g5, g6, g7⟩ := law_leaf c h
          simp only [g1, g2, g3, g4, g5, h, cond_true, cond_false, bself, len_t g6, len_t g7, equalI, equalF, beq_self_eq_true]
          rw [frac_eq]; rfl
        · obtain ⟨g1, g2, g3⟩ := fault_no h
          have hf : (barsFault c == 0) = false := by rw [← (check_fault c).1]; simpa using h
          simp only [hf, g1, g2, g3, (check_fault c).1, cond_true, cond_false, bself, equalI, equalF, beq_self_eq_true, List.length_nil, Nat.zero_le, decide_true]
          rw [show Tc.beq tFrac ((0 : Int), (0 : Int)) ((0 : Int), (0 : Int)) = true from rfl]; rfl
    · rw [dF hp, cond_false]
      by_cases h : checkBars c = 0
      · obtain ⟨g1, g2, g3, g4, g5, g6, g7⟩ := law_leaf c h
        simp only [g1, g2, g3, g4, g5, h, cond_true, cond_false, bself, len_t g6, len_t g7, equalI, equalF, beq_self_eq_true]
        rw [frac_eq]; rfl
      · obtain ⟨g1, g2, g3⟩ := fault_no h
        have hf : (barsFault c == 0) = false := by rw [← (check_fault c).1]; simpa using h
        simp only [hf, g1, g2, g3, (check_fault c).1, cond_true, cond_false, bself, equalI, equalF, beq_self_eq_true, List.length_nil, Nat.zero_le, decide_true]
        rw [show Tc.beq tFrac ((0 : Int), (0 : Int)) ((0 : Int), (0 : Int)) = true from rfl]; rfl

theorem r3 : R3 := by
  intro L _
  rw [f3_run, atOk_t (by omega) (by omega), cond_true]
  obtain ⟨b1, b2, b3⟩ := (bars_spec L 0 (atOk_t (by omega) (by omega))).1
  generalize barsS L 0 = p at *
  obtain ⟨a, b⟩ := p
  simp only at b1 b2 b3 ⊢
  rw [atOk_t (by omega) (by omega), cond_true]
  cases next L a 30 == 0 with
  | true => exact law_run 600 b (by omega) (by omega)
  | false =>
    rw [cond_false]
    by_cases h : checkBars b = 0
    · obtain ⟨g1, g2, g3, g4, g5, g6, g7⟩ := law_leaf b h
      simp only [g1, g2, g3, g4, g5, h, cond_true, cond_false, bself, len_t g6, len_t g7, equalI, equalF, beq_self_eq_true]
      rw [frac_eq]; rfl
    · obtain ⟨g1, g2, g3⟩ := fault_no h
      have hf : (barsFault b == 0) = false := by rw [← (check_fault b).1]; simpa using h
      simp only [hf, g1, g2, g3, (check_fault b).1, cond_true, cond_false, bself, equalI, equalF, beq_self_eq_true, List.length_nil, Nat.zero_le, decide_true]
      rw [show Tc.beq tFrac ((0 : Int), (0 : Int)) ((0 : Int), (0 : Int)) = true from rfl]; rfl

end Go.Ev.B

set_option linter.unusedSimpArgs false
set_option linter.unusedVariables false
namespace Go.Ev
open Go

/-! ### from a contract to a row -/
/-- A row of whole numbers in memory. -/
def IsRow (k : IntKind) (w : World) (a : Option Addr) (len cap : Nat) (zs : List Int) : Prop :=
  (a = none ∧ len = 0 ∧ cap = 0 ∧ zs = []) ∨
  ∃ x, a = some x ∧ len ≤ cap ∧ zs.length = cap ∧ (∀ i, i < zs.length → w.cell? (x.add i) = some (.int k (zs.getD i 0)))

/-- What is left as it was. -/
def Kept (W w' : World) : Prop := w'.os = W.os ∧ w'.output = W.output ∧ W.heap.size ≤ w'.heap.size ∧ ∀ b, b < W.heap.size → w'.heap[b]? = W.heap[b]?

theorem Kept.but {W w' : World} (h : Kept W w') (may : MemPlace → Prop) : W.keptBut w' may := by
  refine ⟨h.1, h.2.1, fun i hi => ?_⟩
  rw [h.2.2.2 i hi]
  split <;> simp_all

theorem Kept.same {W w' : World} (h : Kept W w') {p : MemPlace} (hp : p.block < W.heap.size) : W.sameAt w' p := by
  cases p with
  | cell b o => exact World.cell?_of_block (w := W) (h.2.2.2 b hp)
  | map b => exact h.2.2.2 b hp

theorem Kept.trod {H : Type} {enc : TypeId × Value → H} {P : Program} {t : TypeId} (hl : laidOutB P = true) (hr : P.readableRec t = true) (hrow : t < P.types.size) {W W' : World} {v : Value} {d : DataW H} {ps : List MemPlace}
    (h : DataW.Trod enc P W 0 (fun _ => true) true t v d ps) (hb : Kept W W') (hlt : ∀ x ∈ ps, x.block < W.heap.size) :
    DataW.Trod enc P W' 0 (fun b => decide (b < W.heap.size)) true t v d ps :=
  WideElems.Trod_stays hl hr hrow h (fun x hx => hb.same (hlt x hx)) (fun x hx => by simpa using hlt x hx)

theorem row_rel {W : World} {k : IntKind} {a : Option Addr} {len cap : Nat} {zs : List Int} (h : IsRow k W a len cap zs) :
    RelD (fun b => b < W.heap.size) W.heap (.slice (.int k)) (zs.take len) [.slice a len cap] := by
  rcases h with ⟨rfl, rfl, rfl, rfl⟩ | ⟨x, rfl, h1, h2, h3⟩
  · exact ⟨none, 0, rfl, by simp, fun i x hx => by simp at hx⟩
  · have hlen : (zs.take len).length = len := by rw [List.length_take]; omega
    refine ⟨some x, cap, by rw [hlen], by rw [hlen]; omega, fun i y hy => ?_⟩
    have hi : i < (zs.take len).length := (List.getElem?_eq_some_iff.1 hy).1
    rw [hlen] at hi
    have hc := h3 i (by omega)
    have hsp : x.spot = none := by
      have h4 := World.cell?_spot (h3 0 (by omega))
      rwa [show x.add 0 = x from if_pos rfl] at h4
    have hadd : x.add i = ⟨x.block, x.off + i, none⟩ := by
      obtain ⟨b, o, sp⟩ := x
      simp only at hsp
      subst hsp
      unfold Addr.add
      split
      · rename_i h0; simp [h0]
      · rfl
    rw [hadd, cell_at] at hc
    have hy2 : zs.getD i 0 = y := by
      rw [List.getElem?_take, if_pos hi] at hy
      rw [List.getD_eq_getElem?_getD, hy]; rfl
    refine ⟨x, rfl, hsp, ?_, [.int k y], rfl, fun j u hu => ?_⟩
    · unfold cellAt at hc
      split at hc
      · rename_i hb
        exact (Array.getElem?_eq_some_iff.1 hb).1
      · cases hc
    · have hj : j = 0 := by
        have := (List.getElem?_eq_some_iff.1 hu).1
        simpa using this
      subst hj
      simp at hu; subst hu
      rw [show (Tc.int k).size = 1 from rfl, Nat.mul_one, Nat.add_zero, hc, hy2]

/-- A law over numbers: it answers true, and leaves memory alone. -/
theorem law_calls {P : Program} {f : FuncId} {s : Spec} (hs : Sound P f s) {L : List Int} (hok : s.ok ⟨[.dat (.slice (.int .i64)) L], []⟩ = true) (hfn : s.fn ⟨[.dat (.slice (.int .i64)) L], []⟩ = some ⟨[.dat .bool true], []⟩)
    {W : World} {a : Option Addr} {len cap : Nat} (hr : RelD (fun b => b < W.heap.size) W.heap (.slice (.int .i64)) L [.slice a len cap]) :
    Calls P f #[.slice a len cap] W fun e w' => e = .returned (.bool true) ∧ Kept W w' := by
  have hcore : Core (Fr.reg ⟨[.dat (.slice (.int .i64)) L], []⟩) (fun _ => ⟨0, 0, 0, true⟩) (fun b => b < W.heap.size) W.heap :=
    ⟨fun k => trivial, fun k k' h => h.elim, fun k h => h.elim, fun b h => h⟩
  have hv : RelVs (view (Fr.reg ⟨[.dat (.slice (.int .i64)) L], []⟩) (fun _ => ⟨0, 0, 0, true⟩) (fun b => b < W.heap.size) W.heap) [.dat (.slice (.int .i64)) L] [.slice a len cap] :=
    ⟨_, _, rfl, hr, rfl⟩
  refine (hs _ _ hok hfn [.slice a len cap] W _ _ hcore hv).mono ?_
  rintro e w' ⟨u, rfl, hm, loc', S', hc, hle, hu⟩
  have hu' : [u] = [Value.bool true] := hu
  refine ⟨by simpa using hu', hm.1, hm.2, hc.keep.size, fun b hb => hc.keep.same b hb ?_⟩
  rintro ⟨k, hk, _⟩
  exact hk.elim
end Go.Ev

set_option linter.unusedVariables false
namespace Go.Ev.B
open Go Go.Ev Go.Proofs
theorem e33 : EnvOk Try.prog En33 := sd33 e0 r33
theorem e18 : EnvOk Try.prog En18 := sd18 e33 r18
theorem e5 : EnvOk Try.prog En5 := sd5 e18 r5
theorem e20 : EnvOk Try.prog En20 := sd20 e5 r20
theorem e31 : EnvOk Try.prog En31 := sd31 e20 r31
theorem e32 : EnvOk Try.prog En32 := sd32 e31 r32
theorem e17 : EnvOk Try.prog En17 := sd17 e32 r17
theorem e19 : EnvOk Try.prog En19 := sd19 e17 r19
theorem e4 : EnvOk Try.prog En4 := sd4 e19 r4
theorem e38 : EnvOk Try.prog En38 := sd38 e4 r38
theorem e35 : EnvOk Try.prog En35 := sd35 e38 r35
theorem e25 : EnvOk Try.prog En25 := sd25 e35 r25
theorem e39 : EnvOk Try.prog En39 := sd39 e25 r39
theorem e37 : EnvOk Try.prog En37 := sd37 e39 r37
theorem e28 : EnvOk Try.prog En28 := sd28 e37 r28
theorem e29 : EnvOk Try.prog En29 := sd29 e28 r29
theorem e30 : EnvOk Try.prog En30 := sd30 e29 r30
theorem e13 : EnvOk Try.prog En13 := sd13 e30 r13
theorem e21 : EnvOk Try.prog En21 := sd21 e13 r21
theorem e6 : EnvOk Try.prog En6 := sd6 e21 r6
theorem e22 : EnvOk Try.prog En22 := sd22 e6 r22
theorem e34 : EnvOk Try.prog En34 := sd34 e22 r34
theorem e23 : EnvOk Try.prog En23 := sd23 e34 r23
theorem e7 : EnvOk Try.prog En7 := sd7 e23 r7
theorem e8 : EnvOk Try.prog En8 := sd8 e7 r8
theorem e10 : EnvOk Try.prog En10 := sd10 e8 r10
theorem e24 : EnvOk Try.prog En24 := sd24 e10 r24
theorem e9 : EnvOk Try.prog En9 := sd9 e24 r9
theorem e26 : EnvOk Try.prog En26 := sd26 e9 r26
theorem e36 : EnvOk Try.prog En36 := sd36 e26 r36
theorem e27 : EnvOk Try.prog En27 := sd27 e36 r27
theorem e11 : EnvOk Try.prog En11 := sd11 e27 r11
theorem e12 : EnvOk Try.prog En12 := sd12 e11 r12
theorem e14 : EnvOk Try.prog En14 := sd14 e12 r14
theorem e15 : EnvOk Try.prog En15 := sd15 e14 r15
theorem e16 : EnvOk Try.prog En16 := sd16 e15 r16
theorem lawSound : Sound Try.prog 3 S3 := law e16 r3
end Go.Ev.B
