import Derived.Test.YthfjmlcienfloaaGreatDoorA5
import Derived.Lib.Bytealg
import Derived.Lib.SlTrimSet
import Derived.Test.YthfjmlcienfloaaGreatDoorProg
import Derived.Test.YthfjmlcienfloaaGreatDoorA4
import Derived.WalkKit
import Derived.ProofKit
import Derived.OpenShut
import Derived.ChangeOld
import Derived.Carry
import Derived.SizedLaws
set_option linter.unusedVariables false
set_option linter.unusedSimpArgs false
set_option maxRecDepth 100000
namespace Go.Ev.Q
open Go Go.Ev Go.Proofs
abbrev tPrgm : Tc := (.st (.pair (.slice (.st (.pair .str (.pair .str (.pair tI (.slice .str)))))) (.pair tI (.pair tI (.pair tI tI)))))
abbrev Prgm : Type := (List (Bytes × (Bytes × (Int × (List Bytes))))) × (Int × (Int × (Int × Int)))
abbrev tWindow : Tc := (.st (.pair tI tI))
abbrev Window : Type := Int × Int
abbrev tItem : Tc := (.st (.pair .str (.pair .str (.pair tI (.slice .str)))))
abbrev Item : Type := Bytes × (Bytes × (Int × (List Bytes)))
abbrev tBar : Tc := (.st (.pair tI (.pair tI (.pair tI (.pair tI .bool)))))
abbrev Bar : Type := Int × (Int × (Int × (Int × Bool)))
abbrev tChord : Tc := (.st (.pair tI (.pair tI tI)))
abbrev Chord : Type := Int × (Int × Int)
abbrev tCame : Tc := (.st (.pair tI (.pair .str .bool)))
abbrev Came : Type := Int × (Bytes × Bool)
abbrev tAct : Tc := (.st (.pair .str (.pair tI (.pair tI (.pair tI (.pair .str (.pair .str (.pair tI (.pair .bool (.pair .str tI))))))))))
abbrev Act : Type := Bytes × (Int × (Int × (Int × (Bytes × (Bytes × (Int × (Bool × (Bytes × Int))))))))
abbrev tOwn : Tc := (.st (.pair .str tI))
abbrev Own : Type := Bytes × Int
def evtab : List (Nat × TI) := [
  (2, ⟨1, false, [dI .i64 0], some tI, [], none, 8, true, none, none, false⟩),
  (3, ⟨1, false, [dI .i64 0], some tI, [], none, 8, true, none, none, false⟩),
  (4, ⟨1, false, [dB false], some .bool, [], none, 1, true, none, none, false⟩),
  (5, ⟨1, false, [dI .u8 0], some (.int .u8), [], none, 1, true, none, none, false⟩),
  (9, ⟨1, false, [dS []], some .str, [], none, 16, true, none, none, false⟩),
  (12, ⟨1, false, [dI .u64 0], some (.int .u64), [], none, 8, true, none, none, false⟩),
  (20, ⟨1, false, [.nili], none, [], none, 16, false, none, none, true⟩),
  (22, ⟨1, false, [.nil0], some (.slice tI), [], some 3, 24, false, none, none, false⟩),
  (26, ⟨1, false, [.nil0], some (.slice tItem), [], some 48, 24, false, none, none, false⟩),
  (28, ⟨5, true, [.nil0, dI .i64 0, dI .i64 0, dI .i64 0, dI .i64 0], some tPrgm, [(0, 26), (1, 3), (2, 3), (3, 3), (4, 3)], none, 56, false, none, none, false⟩),
  (30, ⟨1, false, [dI .i64 0], some tI, [], none, 8, true, none, none, false⟩),
  (36, ⟨1, false, [.nilf], none, [], none, 8, false, none, none, false⟩),
  (37, ⟨1, false, [.nilf], none, [], none, 8, false, none, none, false⟩),
  (38, ⟨1, false, [.nilf], none, [], none, 8, false, none, none, false⟩),
  (39, ⟨1, false, [.nil0], some (.slice (.st (.pair .str tWindow))), [], some 45, 24, false, none, none, false⟩),
  (42, ⟨2, true, [dI .i64 0, dI .i64 0], some tWindow, [(0, 3), (1, 3)], none, 16, true, none, none, false⟩),
  (43, ⟨2, true, [dI .i64 0, dI .i64 0], some tWindow, [(0, 3), (1, 3)], none, 16, true, none, none, false⟩),
  (44, ⟨3, true, [dS [], dI .i64 0, dI .i64 0], some (.st (.pair .str tWindow)), [(0, 9), (1, 43)], none, 32, false, none, none, false⟩),
  (45, ⟨3, true, [dS [], dI .i64 0, dI .i64 0], some (.st (.pair .str tWindow)), [(0, 9), (1, 43)], none, 32, false, none, none, false⟩),
  (46, ⟨1, false, [.nil0], some (.slice .str), [], some 9, 24, false, none, none, false⟩),
  (48, ⟨4, true, [dS [], dS [], dI .i64 0, .nil0], some tItem, [(0, 9), (1, 9), (2, 3), (3, 46)], none, 64, false, none, none, false⟩),
  (54, ⟨1, false, [.nilf], none, [], none, 8, false, none, none, false⟩),
  (55, ⟨1, false, [.nilf], none, [], none, 8, false, none, none, false⟩),
  (56, ⟨1, false, [.nilf], none, [], none, 8, false, none, none, false⟩),
  (58, ⟨1, false, [.nilf], none, [], none, 8, false, none, none, false⟩),
  (60, ⟨1, false, [.nilf], none, [], none, 8, false, none, none, false⟩),
  (61, ⟨1, false, [.nilf], none, [], none, 8, false, none, none, false⟩),
  (62, ⟨1, false, [.nilf], none, [], none, 8, false, none, none, false⟩),
  (63, ⟨1, false, [.nilf], none, [], none, 8, false, none, none, false⟩),
  (64, ⟨1, false, [.nilf], none, [], none, 8, false, none, none, false⟩),
  (65, ⟨1, false, [.nilf], none, [], none, 8, false, none, none, false⟩),
  (66, ⟨1, false, [.nilf], none, [], none, 8, false, none, none, false⟩),
  (67, ⟨1, false, [.nilf], none, [], none, 8, false, none, none, false⟩),
  (68, ⟨1, false, [.nilf], none, [], none, 8, false, none, none, false⟩),
  (69, ⟨1, false, [.nilf], none, [], none, 8, false, none, none, false⟩),
  (70, ⟨1, false, [.nilf], none, [], none, 8, false, none, none, false⟩),
  (71, ⟨1, false, [.nilf], none, [], none, 8, false, none, none, false⟩),
  (73, ⟨1, false, [.nilf], none, [], none, 8, false, none, none, false⟩),
  (75, ⟨5, true, [dI .i64 0, dI .i64 0, dI .i64 0, dI .i64 0, dB false], some tBar, [(0, 3), (1, 3), (2, 3), (3, 3), (4, 4)], none, 40, true, none, none, false⟩),
  (76, ⟨1, false, [.nil0], some (.slice tBar), [], some 75, 24, false, none, none, false⟩),
  (78, ⟨1, false, [.nilf], none, [], none, 8, false, none, none, false⟩),
  (79, ⟨3, true, [dI .i64 0, dI .i64 0, dI .i64 0], some tChord, [(0, 3), (1, 3), (2, 3)], none, 24, true, none, none, false⟩),
  (80, ⟨3, true, [dI .i64 0, dI .i64 0, dI .i64 0], some tChord, [(0, 3), (1, 3), (2, 3)], none, 24, true, none, none, false⟩),
  (81, ⟨1, false, [.nilf], none, [], none, 8, false, none, none, false⟩),
  (82, ⟨3, true, [dI .i64 0, dS [], dB false], some tCame, [(0, 3), (1, 9), (2, 4)], none, 32, true, none, none, false⟩),
  (83, ⟨3, true, [dI .i64 0, dS [], dB false], some tCame, [(0, 3), (1, 9), (2, 4)], none, 32, true, none, none, false⟩),
  (84, ⟨1, false, [.nil0], some (.slice tCame), [], some 83, 24, false, none, none, false⟩),
  (85, ⟨1, false, [.nilf], none, [], none, 8, false, none, none, false⟩),
  (86, ⟨10, true, [dS [], dI .i64 0, dI .i64 0, dI .i64 0, dS [], dS [], dI .i64 0, dB false, dS [], dI .i64 0], some tAct, [(0, 9), (1, 3), (2, 3), (3, 3), (4, 9), (5, 9), (6, 3), (7, 4), (8, 9), (9, 3)], none, 112, true, none, none, false⟩),
  (87, ⟨10, true, [dS [], dI .i64 0, dI .i64 0, dI .i64 0, dS [], dS [], dI .i64 0, dB false, dS [], dI .i64 0], some tAct, [(0, 9), (1, 3), (2, 3), (3, 3), (4, 9), (5, 9), (6, 3), (7, 4), (8, 9), (9, 3)], none, 112, true, none, none, false⟩),
  (88, ⟨1, false, [.nil0], some (.slice tAct), [], some 87, 24, false, none, none, false⟩),
  (90, ⟨1, false, [.nilf], none, [], none, 8, false, none, none, false⟩),
  (91, ⟨1, false, [.nil0], some (.slice tI), [], some 30, 24, false, none, none, false⟩),
  (93, ⟨1, false, [.nilf], none, [], none, 8, false, none, none, false⟩),
  (94, ⟨1, false, [.nilf], none, [], none, 8, false, none, none, false⟩),
  (95, ⟨1, false, [.nilf], none, [], none, 8, false, none, none, false⟩),
  (96, ⟨1, false, [.nilf], none, [], none, 8, false, none, none, false⟩),
  (97, ⟨3, true, [dI .i64 0, dI .i64 0, .nil0], some (.st (.pair tI (.pair tI (.slice .str)))), [(0, 3), (1, 3), (2, 46)], none, 40, false, none, none, false⟩),
  (98, ⟨3, true, [dI .i64 0, dI .i64 0, .nil0], some (.st (.pair tI (.pair tI (.slice .str)))), [(0, 3), (1, 3), (2, 46)], none, 40, false, none, none, false⟩),
  (99, ⟨1, false, [.nilf], none, [], none, 8, false, none, none, false⟩),
  (103, ⟨1, false, [.nilf], none, [], none, 8, false, none, none, false⟩),
  (104, ⟨1, false, [.nilf], none, [], none, 8, false, none, none, false⟩),
  (105, ⟨1, false, [.nilf], none, [], none, 8, false, none, none, false⟩),
  (106, ⟨1, false, [.nilf], none, [], none, 8, false, none, none, false⟩),
  (107, ⟨1, false, [.nilf], none, [], none, 8, false, none, none, false⟩),
  (108, ⟨1, false, [.nilf], none, [], none, 8, false, none, none, false⟩),
  (109, ⟨1, false, [.nilf], none, [], none, 8, false, none, none, false⟩),
  (113, ⟨1, false, [.nilm], none, [], none, 8, false, none, some (9, 4), false⟩),
  (114, ⟨1, false, [.nilm], none, [], none, 8, false, none, some (9, 116), false⟩),
  (115, ⟨1, false, [.nilf], none, [], none, 8, false, none, none, false⟩),
  (116, ⟨1, false, [.nil0], some (.slice tWindow), [], some 43, 24, false, none, none, false⟩),
  (117, ⟨1, false, [.nilf], none, [], none, 8, false, none, none, false⟩),
  (119, ⟨1, false, [.nilf], none, [], none, 8, false, none, none, false⟩),
  (121, ⟨1, false, [.nilf], none, [], none, 8, false, none, none, false⟩),
  (122, ⟨1, false, [.nilf], none, [], none, 8, false, none, none, false⟩),
  (124, ⟨1, false, [.nilp], none, [], none, 8, false, some 149, none, false⟩),
  (128, ⟨1, false, [.nilf], none, [], none, 8, false, none, none, false⟩),
  (129, ⟨1, false, [.nilf], none, [], none, 8, false, none, none, false⟩),
  (130, ⟨1, false, [.nilf], none, [], none, 8, false, none, none, false⟩),
  (131, ⟨1, false, [.nilf], none, [], none, 8, false, none, none, false⟩),
  (132, ⟨1, false, [.nilf], none, [], none, 8, false, none, none, false⟩),
  (133, ⟨1, false, [.nil0], some (.slice tChord), [], some 157, 24, false, none, none, false⟩),
  (138, ⟨1, false, [.nilm], none, [], none, 8, false, none, some (9, 3), false⟩),
  (144, ⟨1, false, [.nilf], none, [], none, 8, false, none, none, false⟩),
  (145, ⟨1, false, [.nilm], none, [], none, 8, false, none, some (9, 146), false⟩),
  (146, ⟨1, false, [.nil0], some (.slice tChord), [], some 170, 24, false, none, none, false⟩),
  (147, ⟨1, false, [.nilm], none, [], none, 8, false, none, some (9, 205), false⟩),
  (148, ⟨5, true, [dI .i64 0, .nilm, .nilm, .nilm, .nil0], none, [(0, 3), (1, 145), (2, 138), (3, 147), (4, 22)], none, 56, false, none, none, false⟩),
  (149, ⟨5, true, [dI .i64 0, .nilm, .nilm, .nilm, .nil0], none, [(0, 3), (1, 145), (2, 138), (3, 147), (4, 22)], none, 56, false, none, none, false⟩),
  (155, ⟨1, false, [.nilf], none, [], none, 8, false, none, none, false⟩),
  (156, ⟨3, true, [dI .i64 0, dI .i64 0, dI .i64 0], some tChord, [(0, 3), (1, 3), (2, 3)], none, 24, true, none, none, false⟩),
  (157, ⟨3, true, [dI .i64 0, dI .i64 0, dI .i64 0], some tChord, [(0, 3), (1, 3), (2, 3)], none, 24, true, none, none, false⟩),
  (158, ⟨1, false, [.nil0], some (.slice (.slice tI)), [], some 22, 24, false, none, none, false⟩),
  (159, ⟨1, false, [.nilf], none, [], none, 8, false, none, none, false⟩),
  (164, ⟨1, false, [dI .u64 0], some (.int .u64), [], none, 8, true, none, none, false⟩),
  (166, ⟨1, false, [.nilf], none, [], none, 8, false, none, none, false⟩),
  (167, ⟨1, false, [.nilf], none, [], none, 8, false, none, none, false⟩),
  (170, ⟨3, true, [dI .i64 0, dI .i64 0, dI .i64 0], some tChord, [(0, 3), (1, 3), (2, 3)], none, 24, true, none, none, false⟩),
  (171, ⟨1, false, [.nilf], none, [], none, 8, false, none, none, false⟩),
  (172, ⟨1, false, [.nilf], none, [], none, 8, false, none, none, false⟩),
  (178, ⟨1, false, [.nilp], none, [], none, 8, false, some 174, none, false⟩),
  (180, ⟨1, false, [dI .u64 0], some (.int .u64), [], none, 8, true, none, none, false⟩),
  (183, ⟨1, false, [.nil0], some (.slice (.int .u8)), [], some 5, 24, false, none, none, false⟩),
  (195, ⟨1, false, [dI .u32 0], some (.int .u32), [], none, 4, true, none, none, false⟩),
  (198, ⟨1, false, [.nilm], none, [], none, 8, false, none, some (200, 4), false⟩),
  (200, ⟨2, true, [dS [], dI .i64 0], some tOwn, [(0, 9), (1, 3)], none, 24, true, none, none, false⟩),
  (201, ⟨1, false, [.nilf], none, [], none, 8, false, none, none, false⟩),
  (202, ⟨1, false, [.nilf], none, [], none, 8, false, none, none, false⟩),
  (205, ⟨1, false, [.nilp], none, [], none, 8, false, some 207, none, false⟩),
  (207, ⟨3, true, [dB false, .nilm, .nil0], none, [(0, 4), (1, 113), (2, 46)], none, 40, false, none, none, false⟩),
  (222, ⟨5, true, [dB false, dB false, dB false, dB false, dB false], some (.st (.pair .bool (.pair .bool (.pair .bool (.pair .bool .bool))))), [(0, 4), (1, 4), (2, 4), (3, 4), (4, 4)], none, 5, false, none, none, false⟩),
  (224, ⟨1, false, [.nilf], none, [], none, 8, false, none, none, false⟩)]

def indexB (s : Bytes) (c : Int) : Int := Lib.indexByte s c.toNat.toUInt8
def trimB (s cs : Bytes) : Bytes := Lib.trimS s cs
def trimOk (s cs : Bytes) : Bool := decide (s.length ≤ 1000000) && decide (cs.length ≤ 1000) && cs.all fun b => decide (b.toNat < 128)
noncomputable def gIdx : Spec := genS [true, true] false ⟨[.undef, .undef], []⟩ [.str, .int .u8] (fun x => true) (fun x => ⟨[.dat (.int .i64) (indexB x.1 x.2.1)], []⟩)
noncomputable def gTrim : Spec := genS [true, true] false ⟨[.undef, .undef], []⟩ [.str, .str] (fun x => trimOk x.1 x.2.1) (fun x => ⟨[.dat .str (trimB x.1 x.2.1)], []⟩)

noncomputable def V0 : Env := ⟨ttOf evtab, fun _ => none, (fun _ _ => True), fun _ => none⟩
noncomputable def W42 : Spec := evSpec V0 ⟨[], [], []⟩ Tryz.f42 (codeOf Tryz.f42) [.raw] [false, false, false] true 400
noncomputable def V42 : Env := V0.add 42 W42
noncomputable def V103 : Env := V42.add 103 gIdx
noncomputable def V104 : Env := V103.add 104 gTrim
noncomputable def W78 : Spec := evSpec V104 ⟨[], [], []⟩ Tryz.f78 (codeOf Tryz.f78) [.raw] [false] true 400
noncomputable def V78 : Env := V104.add 78 W78
noncomputable def W80 : Spec := evSpec V78 ⟨[], [], []⟩ Tryz.f80 (codeOf Tryz.f80) [.raw] [false] true 400
noncomputable def V80 : Env := V78.add 80 W80
noncomputable def W67 : Spec := evSpec V80 ⟨[], [], []⟩ Tryz.f67 (codeOf Tryz.f67) [.raw] [false, false] true 400
noncomputable def V67 : Env := V80.add 67 W67
noncomputable def W66 : Spec := evSpec V67 ⟨[], [], []⟩ Tryz.f66 (codeOf Tryz.f66) [.raw] [false] true 400
noncomputable def V66 : Env := V67.add 66 W66
noncomputable def V167 : Env := V66.addIt 167 tAct
noncomputable def W117 : Spec := evSpec V167 ⟨[(0, [0, 5], [])], [], []⟩ Tryz.f117 (codeOf Tryz.f117) [] [false] true 400
noncomputable def V117 : Env := V167.add 117 W117
noncomputable def W93 : Spec := evSpec V117 ⟨[(0, [0, 5], [])], [], []⟩ Tryz.f93 (codeOf Tryz.f93) [] [false] true 400
noncomputable def V93 : Env := V117.add 93 W93
noncomputable def W44 : Spec := evSpec V93 ⟨[(0, [0, 1, 7, 8], [])], [], []⟩ Tryz.f44 (codeOf Tryz.f44) [.raw] [false, false] true 400
noncomputable def V44 : Env := V93.add 44 W44
noncomputable def W79 : Spec := evSpec V44 ⟨[], [], []⟩ Tryz.f79 (codeOf Tryz.f79) [.raw] [false, false] true 400
noncomputable def V79 : Env := V44.add 79 W79
noncomputable def W81 : Spec := evSpec V79 ⟨[(0, [0, 11, 12, 13], [])], [], []⟩ Tryz.f81 (codeOf Tryz.f81) [.raw] [false] true 400
noncomputable def V81 : Env := V79.add 81 W81
noncomputable def W55 : Spec := evSpec V81 ⟨[(0, [0, 9, 10, 11], [])], [], []⟩ Tryz.f55 (codeOf Tryz.f55) [.raw] [false] true 400
noncomputable def V55 : Env := V81.add 55 W55
noncomputable def W34 : Spec := evSpec V55 ⟨[], [], []⟩ Tryz.f34 (codeOf Tryz.f34) [.raw] [false] true 400
noncomputable def V34 : Env := V55.add 34 W34
noncomputable def W98 : Spec := evSpec V34 ⟨[], [], []⟩ Tryz.f98 (codeOf Tryz.f98) [.raw] [false, false, false] true 400
noncomputable def V98 : Env := V34.add 98 W98
noncomputable def W72 : Spec := evSpec V98 ⟨[], [], []⟩ Tryz.f72 (codeOf Tryz.f72) [.raw] [false, false] true 400
noncomputable def V72 : Env := V98.add 72 W72
noncomputable def W40 : Spec := evSpec V72 ⟨[(0, [1, 4, 5, 9, 10, 11], [])], [], []⟩ Tryz.f40 (codeOf Tryz.f40) [.raw, .raw] [false] true 400
noncomputable def V40 : Env := V72.add 40 W40
noncomputable def W11 : Spec := evSpec V40 ⟨[], [], []⟩ Tryz.f11 (codeOf Tryz.f11) [.raw, .raw] [false] true 400
noncomputable def V11 : Env := V40.add 11 W11
noncomputable def W12 : Spec := evSpec V11 ⟨[(0, [5, 6, 7], [])], [], []⟩ Tryz.f12 (codeOf Tryz.f12) [.raw] [false] true 400
noncomputable def V12 : Env := V11.add 12 W12
noncomputable def W171 : Spec := evSpec V12 ⟨[(0, [0, 1, 7, 8], [])], [], []⟩ Tryz.f171 (codeOf Tryz.f171) [.raw] [false, false] true 400
noncomputable def V171 : Env := V12.add 171 W171
noncomputable def W155 : Spec := evSpec V171 ⟨[], [], []⟩ Tryz.f155 (codeOf Tryz.f155) [.raw] [false, false] true 400
noncomputable def V155 : Env := V171.add 155 W155
noncomputable def W128 : Spec := evSpec V155 ⟨[], [], []⟩ Tryz.f128 (codeOf Tryz.f128) [.raw] [false] true 400
noncomputable def V128 : Env := V155.add 128 W128
noncomputable def W105 : Spec := evSpec V128 ⟨[], [], []⟩ Tryz.f105 (codeOf Tryz.f105) [.raw] [false] true 400
noncomputable def V105 : Env := V128.add 105 W105
noncomputable def W82 : Spec := evSpec V105 ⟨[(0, [0, 3, 7, 8, 9], [])], [], []⟩ Tryz.f82 (codeOf Tryz.f82) [.raw] [false] true 400
noncomputable def V82 : Env := V105.add 82 W82
noncomputable def W83 : Spec := evSpec V82 ⟨[(0, [0, 4, 5, 12, 13, 14], []), (2, [0, 4, 5, 44, 45, 46], []), (4, [0, 4, 5, 9, 44, 45, 46, 55, 56, 57], [])], [], []⟩ Tryz.f83 (codeOf Tryz.f83) [.raw, .raw] [false] true 400
noncomputable def V83 : Env := V82.add 83 W83
noncomputable def W84 : Spec := evSpec V83 ⟨[(0, [0, 2, 7, 12, 13, 14], []), (2, [0, 2, 7, 9, 10, 12, 13, 14], []), (4, [0, 2, 7, 9, 10, 11, 12, 13, 14], [])], [], []⟩ Tryz.f84 (codeOf Tryz.f84) [.raw] [false, false, false] true 400
noncomputable def V84 : Env := V83.add 84 W84
noncomputable def W56 : Spec := evSpec V84 ⟨[], [], []⟩ Tryz.f56 (codeOf Tryz.f56) [.raw] [false] true 400
noncomputable def V56 : Env := V84.add 56 W56
noncomputable def W57 : Spec := evSpec V56 ⟨[], [], []⟩ Tryz.f57 (codeOf Tryz.f57) [.raw] [false] true 400
noncomputable def V57 : Env := V56.add 57 W57
noncomputable def W36 : Spec := evSpec V57 ⟨[], [], []⟩ Tryz.f36 (codeOf Tryz.f36) [.raw, .raw] [false] true 400
noncomputable def V36 : Env := V57.add 36 W36
noncomputable def W85 : Spec := evSpec V36 ⟨[], [], []⟩ Tryz.f85 (codeOf Tryz.f85) [.raw] [false] true 400
noncomputable def V85 : Env := V36.add 85 W85
noncomputable def W86 : Spec := evSpec V85 ⟨[], [], []⟩ Tryz.f86 (codeOf Tryz.f86) [.raw] [false] true 400
noncomputable def V86 : Env := V85.add 86 W86
noncomputable def W58 : Spec := evSpec V86 ⟨[], [], []⟩ Tryz.f58 (codeOf Tryz.f58) [.raw] [false] true 400
noncomputable def V58 : Env := V86.add 58 W58
noncomputable def W59 : Spec := evSpec V58 ⟨[], [], []⟩ Tryz.f59 (codeOf Tryz.f59) [.raw] [] true 400
noncomputable def V59 : Env := V58.add 59 W59
noncomputable def W60 : Spec := evSpec V59 ⟨[], [], []⟩ Tryz.f60 (codeOf Tryz.f60) [.raw] [] true 400
noncomputable def V60 : Env := V59.add 60 W60
noncomputable def W129 : Spec := evSpec V60 ⟨[], [], []⟩ Tryz.f129 (codeOf Tryz.f129) [.raw] [false] true 400
noncomputable def V129 : Env := V60.add 129 W129
noncomputable def W144 : Spec := evSpec V129 ⟨[], [], []⟩ Tryz.f144 (codeOf Tryz.f144) [.raw] [false] true 400
noncomputable def V144 : Env := V129.add 144 W144
noncomputable def W156 : Spec := evSpec V144 ⟨[], [], []⟩ Tryz.f156 (codeOf Tryz.f156) [.raw] [false] true 400
noncomputable def V156 : Env := V144.add 156 W156
noncomputable def W157 : Spec := evSpec V156 ⟨[], [], []⟩ Tryz.f157 (codeOf Tryz.f157) [.raw] [false] true 400
noncomputable def V157 : Env := V156.add 157 W157
noncomputable def W130 : Spec := evSpec V157 ⟨[], [], []⟩ Tryz.f130 (codeOf Tryz.f130) [.raw] [false] true 400
noncomputable def V130 : Env := V157.add 130 W130
noncomputable def W131 : Spec := evSpec V130 ⟨[(0, [0, 1, 4], [])], [], []⟩ Tryz.f131 (codeOf Tryz.f131) [] [false, false] true 400
noncomputable def V131 : Env := V130.add 131 W131
noncomputable def W158 : Spec := evSpec V131 ⟨[], [], []⟩ Tryz.f158 (codeOf Tryz.f158) [.raw] [false] true 400
noncomputable def V158 : Env := V131.add 158 W158
noncomputable def W172 : Spec := evSpec V158 ⟨[], [], []⟩ Tryz.f172 (codeOf Tryz.f172) [.raw] [false] true 400
noncomputable def V172 : Env := V158.add 172 W172
noncomputable def W173 : Spec := evSpec V172 ⟨[], [], []⟩ Tryz.f173 (codeOf Tryz.f173) [.raw] [false] true 400
noncomputable def V173 : Env := V172.add 173 W173
noncomputable def W159 : Spec := evSpec V173 ⟨[], [], []⟩ Tryz.f159 (codeOf Tryz.f159) [.raw] [false] true 400
noncomputable def V159 : Env := V173.add 159 W159
noncomputable def W132 : Spec := evSpec V159 ⟨[(0, [0, 1, 3, 4, 10, 11, 12, 13, 14, 15, 16], []), (2, [0, 1, 3, 4, 10, 11, 12, 13, 17], [])], [], []⟩ Tryz.f132 (codeOf Tryz.f132) [.raw, .raw] [false, false, false, false, false] true 400
noncomputable def V132 : Env := V159.add 132 W132
noncomputable def W106 : Spec := evSpec V132 ⟨[], [], []⟩ Tryz.f106 (codeOf Tryz.f106) [.raw] [false, false] true 400
noncomputable def V106 : Env := V132.add 106 W106
noncomputable def W87 : Spec := evSpec V106 ⟨[], [], []⟩ Tryz.f87 (codeOf Tryz.f87) [.raw] [false] true 400
noncomputable def V87 : Env := V106.add 87 W87
noncomputable def W61 : Spec := evSpec V87 ⟨[], [], []⟩ Tryz.f61 (codeOf Tryz.f61) [.raw] [false] true 400
noncomputable def V61 : Env := V87.add 61 W61
noncomputable def W37 : Spec := evSpec V61 ⟨[], [], []⟩ Tryz.f37 (codeOf Tryz.f37) [.raw, .raw] [false] true 400
noncomputable def V37 : Env := V61.add 37 W37
noncomputable def W63 : Spec := evSpec V37 ⟨[], [], []⟩ Tryz.f63 (codeOf Tryz.f63) [.raw] [false] true 400
noncomputable def V63 : Env := V37.add 63 W63
noncomputable def W99 : Spec := evSpec V63 ⟨[], [], []⟩ Tryz.f99 (codeOf Tryz.f99) [.raw] [false] true 400
noncomputable def V99 : Env := V63.add 99 W99
noncomputable def W73 : Spec := evSpec V99 ⟨[], [], []⟩ Tryz.f73 (codeOf Tryz.f73) [.raw] [false, false] true 400
noncomputable def V73 : Env := V99.add 73 W73
noncomputable def W107 : Spec := evSpec V73 ⟨[(0, [3, 6, 7, 8], [])], [], []⟩ Tryz.f107 (codeOf Tryz.f107) [.raw] [false] true 400
noncomputable def V107 : Env := V73.add 107 W107
noncomputable def W133 : Spec := evSpec V107 ⟨[], [], []⟩ Tryz.f133 (codeOf Tryz.f133) [.raw] [false, false] true 400
noncomputable def V133 : Env := V107.add 133 W133
noncomputable def W108 : Spec := evSpec V133 ⟨[], [], []⟩ Tryz.f108 (codeOf Tryz.f108) [.raw] [false, false] true 400
noncomputable def V108 : Env := V133.add 108 W108
noncomputable def W109 : Spec := evSpec V108 ⟨[], [], []⟩ Tryz.f109 (codeOf Tryz.f109) [.raw] [false] true 400
noncomputable def V109 : Env := V108.add 109 W109
noncomputable def W88 : Spec := evSpec V109 ⟨[], [], []⟩ Tryz.f88 (codeOf Tryz.f88) [.raw] [false, false] true 400
noncomputable def V88 : Env := V109.add 88 W88
noncomputable def W62 : Spec := evSpec V88 ⟨[(0, [0, 8, 9, 10], [])], [], []⟩ Tryz.f62 (codeOf Tryz.f62) [.raw] [false] true 400
noncomputable def V62 : Env := V88.add 62 W62
noncomputable def W89 : Spec := evSpec V62 ⟨[(0, [3, 7, 8, 9], [])], [], []⟩ Tryz.f89 (codeOf Tryz.f89) [.raw] [false] true 400
noncomputable def V89 : Env := V62.add 89 W89
noncomputable def W64 : Spec := evSpec V89 ⟨[(0, [3, 4, 15, 16, 17], []), (3, [3, 69], []), (5, [3, 85], [])], [], []⟩ Tryz.f64 (codeOf Tryz.f64) [.raw] [false] true 400
noncomputable def V64 : Env := V89.add 64 W64
noncomputable def W90 : Spec := evSpec V64 ⟨[(0, [0, 1, 7, 8], [])], [], []⟩ Tryz.f90 (codeOf Tryz.f90) [.raw] [false, false] true 400
noncomputable def V90 : Env := V64.add 90 W90
noncomputable def W65 : Spec := evSpec V90 ⟨[], [], []⟩ Tryz.f65 (codeOf Tryz.f65) [.raw] [false, false] true 400
noncomputable def V65 : Env := V90.add 65 W65
noncomputable def V68 : Env := V65.add 68 (keysS [93, 117])
noncomputable def W69 : Spec := evSpec V68 ⟨[], [], []⟩ Tryz.f69 (codeOf Tryz.f69) [.raw] [false] true 400
noncomputable def V69 : Env := V68.add 69 W69
noncomputable def W38 : Spec := evSpec V69 ⟨[(0, [3, 7, 21], [])], [], []⟩ Tryz.f38 (codeOf Tryz.f38) [.raw, .raw] [false, false] true 400
noncomputable def V38 : Env := V69.add 38 W38
noncomputable def W166 : Spec := evSpec V38 ⟨[], [], []⟩ Tryz.f166 (codeOf Tryz.f166) [.raw] [false] true 400
noncomputable def V166 : Env := V38.add 166 W166
noncomputable def W145 : Spec := evSpec V166 ⟨[], [], []⟩ Tryz.f145 (codeOf Tryz.f145) [.raw] [false] true 400
noncomputable def V145 : Env := V166.add 145 W145
noncomputable def W146 : Spec := evSpec V145 ⟨[], [], []⟩ Tryz.f146 (codeOf Tryz.f146) [.raw] [false, false] true 400
noncomputable def V146 : Env := V145.add 146 W146
noncomputable def W113 : Spec := evSpec V146 ⟨[(0, [0, 13, 14, 15], []), (2, [6, 39, 40, 41], [])], [], []⟩ Tryz.f113 (codeOf Tryz.f113) [.raw] [false] true 400
noncomputable def V113 : Env := V146.add 113 W113
noncomputable def W94 : Spec := evSpec V113 ⟨[], [], []⟩ Tryz.f94 (codeOf Tryz.f94) [.raw] [false, false] true 400
noncomputable def V94 : Env := V113.add 94 W94
noncomputable def W147 : Spec := evSpec V94 ⟨[], [], []⟩ Tryz.f147 (codeOf Tryz.f147) [.raw] [false] true 400
noncomputable def V147 : Env := V94.add 147 W147
noncomputable def W148 : Spec := evSpec V147 ⟨[(0, [0, 2, 3], [])], [], []⟩ Tryz.f148 (codeOf Tryz.f148) [] [false] true 400
noncomputable def V148 : Env := V147.add 148 W148
noncomputable def W114 : Spec := evSpec V148 ⟨[(0, [3, 5, 6], [])], [], []⟩ Tryz.f114 (codeOf Tryz.f114) [.raw] [false, false] true 400
noncomputable def V114 : Env := V148.add 114 W114
noncomputable def W97 : Spec := evSpec V114 ⟨[], [], []⟩ Tryz.f97 (codeOf Tryz.f97) [.raw] [false, false] true 400
noncomputable def V97 : Env := V114.add 97 W97
noncomputable def W149 : Spec := evSpec V97 ⟨[], [], []⟩ Tryz.f149 (codeOf Tryz.f149) [.raw] [false, false] true 400
noncomputable def V149 : Env := V97.add 149 W149
noncomputable def W115 : Spec := evSpec V149 ⟨[], [], []⟩ Tryz.f115 (codeOf Tryz.f115) [.raw] [false, false] true 400
noncomputable def V115 : Env := V149.add 115 W115
noncomputable def W96 : Spec := evSpec V115 ⟨[], [], []⟩ Tryz.f96 (codeOf Tryz.f96) [.raw] [false] true 400
noncomputable def V96 : Env := V115.add 96 W96
noncomputable def W71 : Spec := evSpec V96 ⟨[(0, [0, 3, 11, 12, 13], [])], [], []⟩ Tryz.f71 (codeOf Tryz.f71) [.raw] [false] true 400
noncomputable def V71 : Env := V96.add 71 W71
noncomputable def W116 : Spec := evSpec V71 ⟨[], [], []⟩ Tryz.f116 (codeOf Tryz.f116) [] [false, false] true 400
noncomputable def V116 : Env := V71.add 116 W116
noncomputable def W95 : Spec := evSpec V116 ⟨[(0, [0, 5, 16, 17, 18], [])], [], []⟩ Tryz.f95 (codeOf Tryz.f95) [.raw] [false, false] true 400
noncomputable def V95 : Env := V116.add 95 W95
noncomputable def W70 : Spec := evSpec V95 ⟨[], [], []⟩ Tryz.f70 (codeOf Tryz.f70) [.raw, .raw] [false, false] true 400
noncomputable def V70 : Env := V95.add 70 W70
noncomputable def W39 : Spec := evSpec V70 ⟨[], [], []⟩ Tryz.f39 (codeOf Tryz.f39) [.raw, .raw] [false, false] true 400
noncomputable def V39 : Env := V70.add 39 W39
noncomputable def W10 : Spec := evSpec V39 ⟨[], [], []⟩ Tryz.f10 (codeOf Tryz.f10) [.raw] [] true 400
noncomputable def V10 : Env := V39.add 10 W10
end Go.Ev.Q

set_option linter.unusedVariables false
set_option linter.unusedSimpArgs false
set_option maxRecDepth 100000
namespace Go.Ev.Q
open Go Go.Ev Go.Proofs

theorem mo : Tryz.prog.follows .mixedOrders = true := by kernel_rfl
theorem v0 : EnvOk Tryz.prog V0 := env_nil (by kernel_rfl)

theorem g103 : Sound Tryz.prog V0.gl 103 gIdx ∧ Enters Tryz.prog 103 := by
  refine ⟨pure_sound (P := Tryz.prog) (G := V0.gl) (ts := [.str, .int .u8]) (out := fun x => .dat tI (indexB x.1 x.2.1)) (fun _ => rfl) (fun _ => rfl) ?_, enters_of Tryz.func103 rfl rfl⟩
  rintro ⟨s, c, _⟩ _ w V vals hV _ ⟨u1, us, rfl, h1, u2, us', rfl, h2, rfl⟩
  cases h1
  cases h2
  refine (Any.strings_IndexByte Tryz.lays137 ⟨List.toArray s⟩ c w).mono ?_
  rintro e w' ⟨rfl, rfl⟩
  exact ⟨_, rfl, RowKit.Below.refl _ _, fun _ => rfl⟩

theorem g104 : Sound Tryz.prog V0.gl 104 gTrim ∧ Enters Tryz.prog 104 := by
  refine ⟨pure_sound (P := Tryz.prog) (G := V0.gl) (ts := [.str, .str]) (out := fun x => .dat .str (trimB x.1 x.2.1)) (fun _ => rfl) (fun _ => rfl) ?_, enters_of Tryz.func104 rfl rfl⟩
  rintro ⟨s, c, _⟩ hok w V vals hV _ ⟨u1, us, rfl, h1, u2, us', rfl, h2, rfl⟩
  cases h1
  cases h2
  have hok' : (decide (List.length s ≤ 1000000) && decide (List.length c ≤ 1000) && c.all fun b => decide (b.toNat < 128)) = true := hok
  simp only [Bool.and_eq_true, decide_eq_true_eq] at hok'
  obtain ⟨⟨h1, h2⟩, h3⟩ := hok'
  refine (Any.strings_Trim_laid Tryz.lays160 (by kernel_rfl) ⟨List.toArray s⟩ ⟨List.toArray c⟩ w (by show (List.toArray s).size ≤ _; simp; omega) (by show (List.toArray c).size < _; simp; omega) (ascii_of_all h3)).mono ?_
  rintro e w' ⟨rfl, hb⟩
  exact ⟨_, rfl, hb, fun _ => rfl⟩

theorem sorts (m : Nat) : AnyZ.SortsIn Tryz.prog Tryz.sorted68_ren Fence.wide m :=
  ⟨fun blk off cap ss W hH hblk hsz => callsIn_wide.2 (AnyM.slices_Sort_string Tryz.sort92 blk off cap ss W hH hblk hsz),
   fun p cap W => callsIn_wide.2 (AnyM.slices_Sort_string_none Tryz.sort92 p cap W)⟩

theorem sk1 : SortedKeys Tryz.prog 9 68 93 := by
  intro Bm b nn D0 R w hBm hc hown hmax hb
  have hseq : SeqGives Fence.wide 2 Tryz.prog 93 #[.pointer (some ⟨Bm, 0, none⟩)] encStr (fun ss => ss.Perm (strKeys D0)) (Maps.size D0) w :=
    AnyZ.keys_gives (ρ := Tryz.keys69_ren) { Tryz.keys69 with } Fence.wide _ trivial rfl (by omega) Bm b nn D0 w hBm hc hown
  exact AnyZ.sorted_in Tryz.sorted68 Fence.wide 5 trivial trivial trivial trivial rfl (by omega) (sorts _) (enters_of Tryz.func92 rfl rfl) 93 _ trivial (enters_of Tryz.func93 rfl rfl) _ _ hmax hb _ hseq

theorem sk2 : SortedKeys Tryz.prog 9 68 117 := by
  intro Bm b nn D0 R w hBm hc hown hmax hb
  have hseq : SeqGives Fence.wide 2 Tryz.prog 117 #[.pointer (some ⟨Bm, 0, none⟩)] encStr (fun ss => ss.Perm (strKeys D0)) (Maps.size D0) w :=
    AnyZ.keys_gives (ρ := Tryz.keys96_ren) { Tryz.keys96 with } Fence.wide _ trivial rfl (by omega) Bm b nn D0 w hBm hc hown
  exact AnyZ.sorted_in Tryz.sorted68 Fence.wide 5 trivial trivial trivial trivial rfl (by omega) (sorts _) (enters_of Tryz.func92 rfl rfl) 117 _ trivial (enters_of Tryz.func117 rfl rfl) _ _ hmax hb _ hseq

theorem mem2 {a b g : Nat} (h : mem g [a, b] = true) : g = a ∨ g = b := by
  simpa [mem] using h

theorem g68 : Sound Tryz.prog V0.gl 68 (keysS [93, 117]) ∧ Enters Tryz.prog 68 := by
  refine ⟨sortedKeys_sound (k := 9) (by kernel_rfl) fun g hg => ?_, enters_of Tryz.func68 rfl rfl⟩
  rcases mem2 hg with rfl | rfl
  · exact sk1
  · exact sk2

theorem b167 : BackOK Tryz.prog 167 tAct ∧ Enters Tryz.prog 167 := by
  refine ⟨back_ok (sl := 88) (el := 87) v0 Tryz.func167 rfl rfl rfl ?_ rfl rfl rfl rfl rfl, enters_of Tryz.func167 rfl rfl⟩
  exact ⟨_, _, _, _, _, _, _, _, _, _, _, _, _, _, _, _, _, _, _, _, _, _, _, _, _, _, _, _, _, _, rfl, rfl, rfl, rfl, rfl, ⟨rfl, rfl, rfl⟩, ⟨rfl, rfl, rfl⟩, ⟨rfl, rfl, rfl⟩, ⟨rfl, rfl, rfl⟩, ⟨rfl, rfl, rfl⟩, ⟨rfl, rfl, rfl⟩, ⟨rfl, rfl, rfl⟩, ⟨rfl, rfl, rfl⟩, ⟨rfl, rfl, rfl⟩, ⟨rfl, rfl, rfl⟩,
    ⟨rfl, rfl, rfl⟩, ⟨rfl, rfl, rfl⟩, ⟨rfl, rfl, rfl⟩, ⟨rfl, rfl, rfl⟩, ⟨rfl, rfl, rfl⟩, ⟨rfl, rfl, rfl⟩, ⟨rfl, rfl, rfl⟩⟩

theorem v42 : EnvOk Tryz.prog V42 := env_ev v0 mo 42 _ _ _ _ _ Tryz.func42 rfl rfl
theorem v103 : EnvOk Tryz.prog V103 := env_add v42 g103
theorem v104 : EnvOk Tryz.prog V104 := env_add v103 g104
theorem v78 : EnvOk Tryz.prog V78 := env_ev v104 mo 78 _ _ _ _ _ Tryz.func78 rfl rfl
theorem v80 : EnvOk Tryz.prog V80 := env_ev v78 mo 80 _ _ _ _ _ Tryz.func80 rfl rfl
theorem v67 : EnvOk Tryz.prog V67 := env_ev v80 mo 67 _ _ _ _ _ Tryz.func67 rfl rfl
theorem v66 : EnvOk Tryz.prog V66 := env_ev v67 mo 66 _ _ _ _ _ Tryz.func66 rfl rfl
theorem v167 : EnvOk Tryz.prog V167 := env_it v66 b167
theorem v117 : EnvOk Tryz.prog V117 := env_ev v167 mo 117 _ _ _ _ _ Tryz.func117 rfl rfl
theorem v93 : EnvOk Tryz.prog V93 := env_ev v117 mo 93 _ _ _ _ _ Tryz.func93 rfl rfl
theorem v44 : EnvOk Tryz.prog V44 := env_ev v93 mo 44 _ _ _ _ _ Tryz.func44 rfl rfl
theorem v79 : EnvOk Tryz.prog V79 := env_ev v44 mo 79 _ _ _ _ _ Tryz.func79 rfl rfl
theorem v81 : EnvOk Tryz.prog V81 := env_ev v79 mo 81 _ _ _ _ _ Tryz.func81 rfl rfl
theorem v55 : EnvOk Tryz.prog V55 := env_ev v81 mo 55 _ _ _ _ _ Tryz.func55 rfl rfl
theorem v34 : EnvOk Tryz.prog V34 := env_ev v55 mo 34 _ _ _ _ _ Tryz.func34 rfl rfl
theorem v98 : EnvOk Tryz.prog V98 := env_ev v34 mo 98 _ _ _ _ _ Tryz.func98 rfl rfl
theorem v72 : EnvOk Tryz.prog V72 := env_ev v98 mo 72 _ _ _ _ _ Tryz.func72 rfl rfl
theorem v40 : EnvOk Tryz.prog V40 := env_ev v72 mo 40 _ _ _ _ _ Tryz.func40 rfl rfl
theorem v11 : EnvOk Tryz.prog V11 := env_ev v40 mo 11 _ _ _ _ _ Tryz.func11 rfl rfl
theorem v12 : EnvOk Tryz.prog V12 := env_ev v11 mo 12 _ _ _ _ _ Tryz.func12 rfl rfl
theorem v171 : EnvOk Tryz.prog V171 := env_ev v12 mo 171 _ _ _ _ _ Tryz.func171 rfl rfl
theorem v155 : EnvOk Tryz.prog V155 := env_ev v171 mo 155 _ _ _ _ _ Tryz.func155 rfl rfl
theorem v128 : EnvOk Tryz.prog V128 := env_ev v155 mo 128 _ _ _ _ _ Tryz.func128 rfl rfl
theorem v105 : EnvOk Tryz.prog V105 := env_ev v128 mo 105 _ _ _ _ _ Tryz.func105 rfl rfl
theorem v82 : EnvOk Tryz.prog V82 := env_ev v105 mo 82 _ _ _ _ _ Tryz.func82 rfl rfl
theorem v83 : EnvOk Tryz.prog V83 := env_ev v82 mo 83 _ _ _ _ _ Tryz.func83 rfl rfl
theorem v84 : EnvOk Tryz.prog V84 := env_ev v83 mo 84 _ _ _ _ _ Tryz.func84 rfl rfl
theorem v56 : EnvOk Tryz.prog V56 := env_ev v84 mo 56 _ _ _ _ _ Tryz.func56 rfl rfl
theorem v57 : EnvOk Tryz.prog V57 := env_ev v56 mo 57 _ _ _ _ _ Tryz.func57 rfl rfl
theorem v36 : EnvOk Tryz.prog V36 := env_ev v57 mo 36 _ _ _ _ _ Tryz.func36 rfl rfl
theorem v85 : EnvOk Tryz.prog V85 := env_ev v36 mo 85 _ _ _ _ _ Tryz.func85 rfl rfl
theorem v86 : EnvOk Tryz.prog V86 := env_ev v85 mo 86 _ _ _ _ _ Tryz.func86 rfl rfl
theorem v58 : EnvOk Tryz.prog V58 := env_ev v86 mo 58 _ _ _ _ _ Tryz.func58 rfl rfl
theorem v59 : EnvOk Tryz.prog V59 := env_ev v58 mo 59 _ _ _ _ _ Tryz.func59 rfl rfl
theorem v60 : EnvOk Tryz.prog V60 := env_ev v59 mo 60 _ _ _ _ _ Tryz.func60 rfl rfl
theorem v129 : EnvOk Tryz.prog V129 := env_ev v60 mo 129 _ _ _ _ _ Tryz.func129 rfl rfl
theorem v144 : EnvOk Tryz.prog V144 := env_ev v129 mo 144 _ _ _ _ _ Tryz.func144 rfl rfl
theorem v156 : EnvOk Tryz.prog V156 := env_ev v144 mo 156 _ _ _ _ _ Tryz.func156 rfl rfl
theorem v157 : EnvOk Tryz.prog V157 := env_ev v156 mo 157 _ _ _ _ _ Tryz.func157 rfl rfl
theorem v130 : EnvOk Tryz.prog V130 := env_ev v157 mo 130 _ _ _ _ _ Tryz.func130 rfl rfl
theorem v131 : EnvOk Tryz.prog V131 := env_ev v130 mo 131 _ _ _ _ _ Tryz.func131 rfl rfl
theorem v158 : EnvOk Tryz.prog V158 := env_ev v131 mo 158 _ _ _ _ _ Tryz.func158 rfl rfl
theorem v172 : EnvOk Tryz.prog V172 := env_ev v158 mo 172 _ _ _ _ _ Tryz.func172 rfl rfl
theorem v173 : EnvOk Tryz.prog V173 := env_ev v172 mo 173 _ _ _ _ _ Tryz.func173 rfl rfl
theorem v159 : EnvOk Tryz.prog V159 := env_ev v173 mo 159 _ _ _ _ _ Tryz.func159 rfl rfl
theorem v132 : EnvOk Tryz.prog V132 := env_ev v159 mo 132 _ _ _ _ _ Tryz.func132 rfl rfl
theorem v106 : EnvOk Tryz.prog V106 := env_ev v132 mo 106 _ _ _ _ _ Tryz.func106 rfl rfl
theorem v87 : EnvOk Tryz.prog V87 := env_ev v106 mo 87 _ _ _ _ _ Tryz.func87 rfl rfl
theorem v61 : EnvOk Tryz.prog V61 := env_ev v87 mo 61 _ _ _ _ _ Tryz.func61 rfl rfl
theorem v37 : EnvOk Tryz.prog V37 := env_ev v61 mo 37 _ _ _ _ _ Tryz.func37 rfl rfl
theorem v63 : EnvOk Tryz.prog V63 := env_ev v37 mo 63 _ _ _ _ _ Tryz.func63 rfl rfl
theorem v99 : EnvOk Tryz.prog V99 := env_ev v63 mo 99 _ _ _ _ _ Tryz.func99 rfl rfl
theorem v73 : EnvOk Tryz.prog V73 := env_ev v99 mo 73 _ _ _ _ _ Tryz.func73 rfl rfl
theorem v107 : EnvOk Tryz.prog V107 := env_ev v73 mo 107 _ _ _ _ _ Tryz.func107 rfl rfl
theorem v133 : EnvOk Tryz.prog V133 := env_ev v107 mo 133 _ _ _ _ _ Tryz.func133 rfl rfl
theorem v108 : EnvOk Tryz.prog V108 := env_ev v133 mo 108 _ _ _ _ _ Tryz.func108 rfl rfl
theorem v109 : EnvOk Tryz.prog V109 := env_ev v108 mo 109 _ _ _ _ _ Tryz.func109 rfl rfl
theorem v88 : EnvOk Tryz.prog V88 := env_ev v109 mo 88 _ _ _ _ _ Tryz.func88 rfl rfl
theorem v62 : EnvOk Tryz.prog V62 := env_ev v88 mo 62 _ _ _ _ _ Tryz.func62 rfl rfl
theorem v89 : EnvOk Tryz.prog V89 := env_ev v62 mo 89 _ _ _ _ _ Tryz.func89 rfl rfl
theorem v64 : EnvOk Tryz.prog V64 := env_ev v89 mo 64 _ _ _ _ _ Tryz.func64 rfl rfl
theorem v90 : EnvOk Tryz.prog V90 := env_ev v64 mo 90 _ _ _ _ _ Tryz.func90 rfl rfl
theorem v65 : EnvOk Tryz.prog V65 := env_ev v90 mo 65 _ _ _ _ _ Tryz.func65 rfl rfl
theorem v68 : EnvOk Tryz.prog V68 := env_add v65 g68
theorem v69 : EnvOk Tryz.prog V69 := env_ev v68 mo 69 _ _ _ _ _ Tryz.func69 rfl rfl
theorem v38 : EnvOk Tryz.prog V38 := env_ev v69 mo 38 _ _ _ _ _ Tryz.func38 rfl rfl
theorem v166 : EnvOk Tryz.prog V166 := env_ev v38 mo 166 _ _ _ _ _ Tryz.func166 rfl rfl
theorem v145 : EnvOk Tryz.prog V145 := env_ev v166 mo 145 _ _ _ _ _ Tryz.func145 rfl rfl
theorem v146 : EnvOk Tryz.prog V146 := env_ev v145 mo 146 _ _ _ _ _ Tryz.func146 rfl rfl
theorem v113 : EnvOk Tryz.prog V113 := env_ev v146 mo 113 _ _ _ _ _ Tryz.func113 rfl rfl
theorem v94 : EnvOk Tryz.prog V94 := env_ev v113 mo 94 _ _ _ _ _ Tryz.func94 rfl rfl
theorem v147 : EnvOk Tryz.prog V147 := env_ev v94 mo 147 _ _ _ _ _ Tryz.func147 rfl rfl
theorem v148 : EnvOk Tryz.prog V148 := env_ev v147 mo 148 _ _ _ _ _ Tryz.func148 rfl rfl
theorem v114 : EnvOk Tryz.prog V114 := env_ev v148 mo 114 _ _ _ _ _ Tryz.func114 rfl rfl
theorem v97 : EnvOk Tryz.prog V97 := env_ev v114 mo 97 _ _ _ _ _ Tryz.func97 rfl rfl
theorem v149 : EnvOk Tryz.prog V149 := env_ev v97 mo 149 _ _ _ _ _ Tryz.func149 rfl rfl
theorem v115 : EnvOk Tryz.prog V115 := env_ev v149 mo 115 _ _ _ _ _ Tryz.func115 rfl rfl
theorem v96 : EnvOk Tryz.prog V96 := env_ev v115 mo 96 _ _ _ _ _ Tryz.func96 rfl rfl
theorem v71 : EnvOk Tryz.prog V71 := env_ev v96 mo 71 _ _ _ _ _ Tryz.func71 rfl rfl
theorem v116 : EnvOk Tryz.prog V116 := env_ev v71 mo 116 _ _ _ _ _ Tryz.func116 rfl rfl
theorem v95 : EnvOk Tryz.prog V95 := env_ev v116 mo 95 _ _ _ _ _ Tryz.func95 rfl rfl
theorem v70 : EnvOk Tryz.prog V70 := env_ev v95 mo 70 _ _ _ _ _ Tryz.func70 rfl rfl
theorem v39 : EnvOk Tryz.prog V39 := env_ev v70 mo 39 _ _ _ _ _ Tryz.func39 rfl rfl
theorem v10 : EnvOk Tryz.prog V10 := env_ev v39 mo 10 _ _ _ _ _ Tryz.func10 rfl rfl

theorem ready_sound : Sound Tryz.prog V0.gl 10 (genS [] false ⟨[], []⟩ [] (fun _ => true) (fun _ => ⟨[.dat .bool true], []⟩)) ∧ Enters Tryz.prog 10 := by
  have h := (v10).fss 10 W10 rfl
  exact ⟨ev_const h.1 (by kernel_rfl) (by kernel_rfl), h.2⟩
end Go.Ev.Q

set_option linter.unusedVariables false
set_option linter.unusedSimpArgs false
namespace Go.Ev.X
open Go Go.Ev Go.Proofs
theorem r10 : R10 := Go.Ev.Q.ready_sound

end Go.Ev.X

namespace Go.Ev.X
open Go Go.Ev Go.Proofs
theorem e54 : EnvOk Tryz.prog En54 := sd54 e0 r54
theorem e33 : EnvOk Tryz.prog En33 := sd33 e54 r33
theorem e30 : EnvOk Tryz.prog En30 := sd30 e33 r30
theorem e31 : EnvOk Tryz.prog En31 := sd31 e30 r31
theorem e32 : EnvOk Tryz.prog En32 := sd32 e31 r32
theorem e8 : EnvOk Tryz.prog En8 := sd8 e32 r8
theorem e10 : EnvOk Tryz.prog En10 := sd10 e8 r10
theorem e42 : EnvOk Tryz.prog En42 := sd42 e10 r42
theorem e80 : EnvOk Tryz.prog En80 := sd80 e42 r80
theorem e44 : EnvOk Tryz.prog En44 := sd44 e80 r44
theorem e79 : EnvOk Tryz.prog En79 := sd79 e44 r79
theorem e103 : EnvOk Tryz.prog En103 := sd103 e79 r103
theorem e104 : EnvOk Tryz.prog En104 := sd104 e103 r104
theorem e78 : EnvOk Tryz.prog En78 := sd78 e104 r78
theorem e81 : EnvOk Tryz.prog En81 := sd81 e78 r81
theorem e55 : EnvOk Tryz.prog En55 := sd55 e81 r55
theorem e34 : EnvOk Tryz.prog En34 := sd34 e55 r34
theorem e98 : EnvOk Tryz.prog En98 := sd98 e34 r98
theorem e72 : EnvOk Tryz.prog En72 := sd72 e98 r72
theorem e40 : EnvOk Tryz.prog En40 := sd40 e72 r40
theorem e11 : EnvOk Tryz.prog En11 := sd11 e40 r11
theorem e12 : EnvOk Tryz.prog En12 := sd12 e11 r12
theorem e45 : EnvOk Tryz.prog En45 := sd45 e12 r45
theorem e21 : EnvOk Tryz.prog En21 := sd21 e45 r21
theorem e101 : EnvOk Tryz.prog En101 := sd101 e21 r101
theorem e118 : EnvOk Tryz.prog En118 := sd118 e101 r118
theorem e100 : EnvOk Tryz.prog En100 := sd100 e118 r100
theorem e74 : EnvOk Tryz.prog En74 := sd74 e100 r74
theorem e48 : EnvOk Tryz.prog En48 := sd48 e74 r48
theorem e119 : EnvOk Tryz.prog En119 := sd119 e48 r119
theorem e102 : EnvOk Tryz.prog En102 := sd102 e119 r102
theorem e75 : EnvOk Tryz.prog En75 := sd75 e102 r75
theorem e49 : EnvOk Tryz.prog En49 := sd49 e75 r49
theorem e47 : EnvOk Tryz.prog En47 := sd47 e49 r47
theorem e46 : EnvOk Tryz.prog En46 := sd46 e47 r46
theorem e46a : EnvOk Tryz.prog En46a := sd46a e46 r46a
theorem e46b : EnvOk Tryz.prog En46b := sd46b e46a r46b
theorem e46c : EnvOk Tryz.prog En46c := sd46c e46b r46c
theorem e46d : EnvOk Tryz.prog En46d := sd46d e46c r46d
theorem e46e : EnvOk Tryz.prog En46e := sd46e e46d r46e
theorem e19 : EnvOk Tryz.prog En19 := sd19 e46e r19
theorem e23 : EnvOk Tryz.prog En23 := sd23 e19 r23
theorem e76 : EnvOk Tryz.prog En76 := sd76 e23 r76
theorem e44a : EnvOk Tryz.prog En44a := sd44a e76 r44a
theorem e50 : EnvOk Tryz.prog En50 := sd50 e44a r50
theorem e22 : EnvOk Tryz.prog En22 := sd22 e50 r22
theorem e51 : EnvOk Tryz.prog En51 := sd51 e22 r51
theorem e24 : EnvOk Tryz.prog En24 := sd24 e51 r24
theorem e25 : EnvOk Tryz.prog En25 := sd25 e24 r25
theorem lawSound : Sound Tryz.prog En25.gl 6 S6 := law e25 r6
end Go.Ev.X

set_option linter.unusedSimpArgs false
set_option linter.unusedVariables false
namespace Go.Ev
open Go

/-! ### from a contract to a row -/
/-- A row of whole numbers in memory. -/
def IsRow (k : IntKind) (w : World) (a : Option Addr) (len cap : Nat) (zs : List Int) : Prop :=
  (a = none ∧ len = 0 ∧ cap = 0 ∧ zs = []) ∨
  ∃ x, a = some x ∧ len ≤ cap ∧ zs.length = cap ∧ (∀ i, i < zs.length → w.cell? (x.add i) = some (.int k (zs.getD i 0)))

/-- What is left as it was. -/
def Kept (W w' : World) : Prop := w'.os = W.os ∧ w'.output = W.output ∧ W.heap.size ≤ w'.heap.size ∧ ∀ b, b < W.heap.size → w'.heap[b]? = W.heap[b]?

theorem Kept.but {W w' : World} (h : Kept W w') (may : MemPlace → Prop) : W.keptBut w' may := by
  refine ⟨h.1, h.2.1, fun i hi => ?_⟩
  rw [h.2.2.2 i hi]
  split <;> simp_all

theorem Kept.same {W w' : World} (h : Kept W w') {p : MemPlace} (hp : p.block < W.heap.size) : W.sameAt w' p := by
  cases p with
  | cell b o => exact World.cell?_of_block (w := W) (h.2.2.2 b hp)
  | map b => exact h.2.2.2 b hp

theorem Kept.trod {H : Type} {enc : TypeId × Value → H} {P : Program} {t : TypeId} (hl : laidOutB P = true) (hr : P.readableRec t = true) (hrow : t < P.types.size) {W W' : World} {v : Value} {d : DataW H} {ps : List MemPlace}
    (h : DataW.Trod enc P W 0 (fun _ => true) true t v d ps) (hb : Kept W W') (hlt : ∀ x ∈ ps, x.block < W.heap.size) :
    DataW.Trod enc P W' 0 (fun b => decide (b < W.heap.size)) true t v d ps :=
  WideElems.Trod_stays hl hr hrow h (fun x hx => hb.same (hlt x hx)) (fun x hx => by simpa using hlt x hx)

theorem row_rel {W : World} {k : IntKind} {a : Option Addr} {len cap : Nat} {zs : List Int} (h : IsRow k W a len cap zs) :
    RelD (fun b => b < W.heap.size) W.heap (.slice (.int k)) (zs.take len) [.slice a len cap] := by
  rcases h with ⟨rfl, rfl, rfl, rfl⟩ | ⟨x, rfl, h1, h2, h3⟩
  · exact ⟨none, 0, rfl, by simp, fun i x hx => by simp at hx⟩
  · have hlen : (zs.take len).length = len := by rw [List.length_take]; omega
    refine ⟨some x, cap, by rw [hlen], by rw [hlen]; omega, fun i y hy => ?_⟩
    have hi : i < (zs.take len).length := (List.getElem?_eq_some_iff.1 hy).1
    rw [hlen] at hi
    have hc := h3 i (by omega)
    have hsp : x.spot = none := by
      have h4 := World.cell?_spot (h3 0 (by omega))
      rwa [show x.add 0 = x from if_pos rfl] at h4
    have hadd : x.add i = ⟨x.block, x.off + i, none⟩ := by
      obtain ⟨b, o, sp⟩ := x
      simp only at hsp
      subst hsp
      unfold Addr.add
      split
      · rename_i h0; simp [h0]
      · rfl
    rw [hadd, cell_at] at hc
    have hy2 : zs.getD i 0 = y := by
      rw [List.getElem?_take, if_pos hi] at hy
      rw [List.getD_eq_getElem?_getD, hy]; rfl
    refine ⟨x, rfl, hsp, ?_, [.int k y], rfl, fun j u hu => ?_⟩
    · unfold cellAt at hc
      split at hc
      · rename_i hb
        exact (Array.getElem?_eq_some_iff.1 hb).1
      · cases hc
    · have hj : j = 0 := by
        have := (List.getElem?_eq_some_iff.1 hu).1
        simpa using this
      subst hj
      simp at hu; subst hu
      rw [show (Tc.int k).size = 1 from rfl, Nat.mul_one, Nat.add_zero, hc, hy2]

/-- A law over numbers: it answers true, and leaves memory alone. -/
theorem law_calls {P : Program} {G : (Nat → Prop) → Array Obj → Prop} {f : FuncId} {s : Spec} (hs : Sound P G f s) {L : List Int} (hok : s.ok ⟨[.dat (.slice (.int .i64)) L], []⟩ = true) (hfn : s.fn ⟨[.dat (.slice (.int .i64)) L], []⟩ = some ⟨[.dat .bool true], []⟩)
    {W : World} {a : Option Addr} {len cap : Nat} (hG : G (fun b => b < W.heap.size) W.heap) (hr : RelD (fun b => b < W.heap.size) W.heap (.slice (.int .i64)) L [.slice a len cap]) :
    Calls P f #[.slice a len cap] W fun e w' => e = .returned (.bool true) ∧ Kept W w' := by
  have hcore : Core (Fr.reg ⟨[.dat (.slice (.int .i64)) L], []⟩) (fun _ => ⟨0, 0, 0, true, none⟩) (fun b => b < W.heap.size) W.heap :=
    ⟨fun k => trivial, fun k k' h => h.elim, fun k h => h.elim, fun b h => h⟩
  have hv : RelVs (view (Fr.reg ⟨[.dat (.slice (.int .i64)) L], []⟩) (fun _ => ⟨0, 0, 0, true, none⟩) (fun b => b < W.heap.size) W.heap) [.dat (.slice (.int .i64)) L] [.slice a len cap] :=
    ⟨_, _, rfl, hr, rfl⟩
  refine (hs _ _ hok hfn [.slice a len cap] W _ _ hcore hG hv).mono ?_
  rintro e w' ⟨u, rfl, hm, loc', S', hc, hle, hu⟩
  have hu' : [u] = [Value.bool true] := hu
  refine ⟨by simpa using hu', hm.1, hm.2, hc.keep.size, fun b hb => hc.keep.same b hb ?_⟩
  rintro ⟨k, hk, _⟩
  exact hk.elim
end Go.Ev
