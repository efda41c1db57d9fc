/-
  The annotations of this program.
-/
import Derived.KernelRfl
import Derived.Test.YtfiiaehhmdddbaaGreatDoorProg
import Derived.Test.YtfiiaehhmdddbaaGreatDoorDnC
set_option linter.all false
namespace Go.Dn
def roL : List (Nat × Nat) := [(3, 3), (4, 5), (5, 3), (5, 4), (6, 3), (8, 3), (9, 3), (12, 2), (15, 4), (15, 5), (17, 4), (17, 5), (22, 4), (26, 3), (27, 6), (28, 4), (28, 5), (29, 4), (30, 4), (31, 4), (32, 3), (33, 4), (33, 5), (38, 6), (38, 8), (39, 6), (39, 8), (41, 1), (46, 4), (49, 6), (51, 2), (51, 3), (52, 4), (55, 2), (56, 3), (61, 7), (62, 1), (63, 7), (67, 7), (70, 3), (71, 3), (72, 4), (74, 4), (74, 5), (81, 2), (82, 2), (82, 3), (83, 3), (83, 5), (86, 2), (87, 2), (87, 3), (88, 3), (88, 5), (89, 2), (90, 3), (90, 5), (91, 5), (91, 8), (92, 4), (94, 3), (97, 2), (98, 4), (103, 6), (105, 3), (127, 4), (127, 5), (132, 2), (132, 3), (134, 2), (136, 3), (136, 4), (137, 2), (137, 3), (139, 4), (141, 1), (143, 1), (145, 4), (149, 2), (149, 3), (151, 5), (153, 3), (156, 3), (156, 4), (156, 5), (184, 2), (186, 2), (188, 4), (193, 2), (193, 3), (194, 3), (194, 4), (194, 5), (195, 1), (197, 3), (199, 2), (215, 2), (217, 2), (217, 3), (237, 3), (238, 2), (239, 1), (252, 3), (270, 5), (379, 2)]
def pairL : List (Nat × Nat × List (Nat × Nat)) := [(3, (15, [(15, 11)])), (4, (6, [(2, 9)])), (5, (15, [(4, 0)])), (10, (24, [(4, 3), (8, 3), (12, 3)])), (10, (29, [(10, 4)])), (11, (3, [(3, 7), (4, 7)])), (12, (9, [(8, 5)])), (17, (28, [(10, 19), (13, 19), (15, 19), (13, 22), (15, 22), (15, 25)])), (19, (7, [(2, 1), (3, 1), (4, 1), (2, 7), (3, 7), (4, 7), (2, 8), (3, 8)])), (19, (9, [(4, 4), (8, 8), (10, 10), (2, 1), (3, 1), (4, 1), (2, 7), (3, 7), (4, 7), (7, 1), (7, 6)])), (26, (9, [(12, 7)])), (26, (20, [(12, 7)])), (26, (22, [(12, 7)])), (26, (24, [(11, 7)])), (26, (26, [(11, 7)])), (26, (28, [(12, 7)])), (26, (30, [(13, 8)])), (26, (34, [(10, 7)])), (34, (11, [(8, 4), (11, 4), (22, 18), (25, 18), (28, 18)])), (36, (9, [(4, 8), (4, 11)])), (47, (8, [(5, 11)])), (49, (4, [(5, 9)])), (72, (5, [(5, 9)])), (77, (15, [(3, 2)])), (77, (19, [(0, 4)])), (84, (9, [(3, 9)])), (88, (25, [(1, 7)])), (91, (6, [(0, 13), (3, 13), (9, 13), (0, 14), (3, 14)])), (94, (3, [(5, 1), (11, 1), (11, 6)])), (94, (14, [(3, 14)])), (98, (7, [(5, 20), (10, 20)])), (114, (10, [(3, 19), (8, 19), (11, 19), (3, 20)])), (116, (8, [(5, 10)])), (119, (4, [(0, 5), (6, 4), (0, 8)])), (124, (23, [(4, 6)])), (127, (1, [(6, 3)])), (136, (1, [(4, 3), (6, 3)])), (142, (5, [(3, 10), (5, 10)])), (143, (1, [(4, 2), (7, 2), (7, 5)])), (147, (10, [(5, 19)])), (149, (11, [(1, 15)])), (150, (1, [(7, 3)])), (155, (11, [(3, 20)])), (156, (20, [(3, 6)])), (156, (31, [(3, 6)])), (159, (20, [(4, 12), (8, 12), (4, 14), (8, 14), (4, 21), (8, 21), (4, 23), (8, 23)])), (159, (25, [(21, 2), (21, 4), (21, 7), (27, 2), (27, 4), (27, 7)])), (173, (45, [(1, 17), (4, 17)])), (188, (7, [(2, 8)])), (189, (1, [(8, 4)])), (193, (10, [(1, 5), (1, 6)])), (194, (35, [(1, 13)])), (196, (5, [(6, 19), (11, 19)])), (238, (7, [(2, 16), (6, 16)])), (239, (1, [(4, 2)])), (241, (34, [(4, 18), (8, 18), (22, 17), (24, 17), (4, 27), (8, 27)])), (241, (40, [(1, 8), (13, 7), (20, 7)])), (241, (41, [(7, 5), (9, 5), (12, 5), (14, 5), (18, 5), (20, 5)])), (270, (1, [(7, 4)])), (362, (3, [(8, 4)])), (363, (0, [(12, 4), (12, 8)]))]
def fzL : List (Nat × Nat) := [(119, 8), (197, 10), (12, 50)]
def badL : List Nat := [219, 225]
def methL : List (Nat × String × Nat) := [(8, "Error", 338), (8, "RuntimeError", 339), (10, "Error", 340), (10, "RuntimeError", 341), (11, "Error", 342), (11, "RuntimeError", 343), (14, "Error", 344), (14, "RuntimeError", 345), (15, "Error", 346), (15, "RuntimeError", 347), (16, "Error", 348), (16, "RuntimeError", 349), (17, "Align", 350), (19, "Error", 351), (19, "RuntimeError", 352), (27, "tabulary/tabularylaw20.alike", 34), (27, "tabulary/tabularylaw20.play", 26), (27, "tabulary/tabularylaw20.rest", 71), (34, "Cancel", 31), (34, "Commit", 17), (34, "Copy", 28), (34, "Delete", 29), (34, "Discard", 32), (34, "Edit", 15), (34, "Get", 27), (34, "Holder", 24), (34, "Leave", 23), (34, "Lock", 22), (34, "Store", 14), (34, "Tick", 20), (34, "Unlock", 30), (34, "Until", 21), (34, "Validate", 33), (34, "tabulary/desk.back", 58), (34, "tabulary/desk.drop", 59), (34, "tabulary/desk.free", 46), (34, "tabulary/desk.mine", 52), (34, "tabulary/desk.put", 75), (34, "tabulary/desk.save", 53), (34, "tabulary/desk.tree", 74), (35, "Again", 37), (35, "Blocks", 353), (35, "Dead", 76), (35, "Fuel", 35), (35, "Read", 354), (35, "Write", 355), (36, "Cancel", 68), (36, "Commit", 67), (36, "Copy", 63), (36, "Delete", 64), (36, "Discard", 69), (36, "Edit", 61), (36, "Get", 60), (36, "Leave", 112), (36, "Lock", 65), (36, "Tick", 113), (36, "Unlock", 66), (36, "Validate", 70), (36, "tabulary/tabularyref20.back", 111), (36, "tabulary/tabularyref20.drop", 107), (36, "tabulary/tabularyref20.may", 109), (36, "tabulary/tabularyref20.put", 106), (36, "tabulary/tabularyref20.save", 110), (36, "tabulary/tabularyref20.source", 105), (36, "tabulary/tabularyref20.taken", 100), (36, "tabulary/tabularyref20.theirs", 108), (44, "Error", 356), (77, "Save", 153), (82, "Save", 94), (83, "tabulary/vault.bytes", 143), (182, "tabulary/sieve.cut", 115), (182, "tabulary/sieve.join", 155), (187, "Byte", 160), (187, "End", 122), (187, "Flag", 121), (187, "Ok", 161), (187, "Text", 120), (187, "U32", 118), (187, "tabulary/wire.take", 157), (235, "tabulary/xml.attrs", 212), (235, "tabulary/xml.blank", 207), (235, "tabulary/xml.comments", 166), (235, "tabulary/xml.elem", 167), (235, "tabulary/xml.inside", 219), (235, "tabulary/xml.name", 211), (235, "tabulary/xml.skip", 163), (235, "tabulary/xml.till", 164), (243, "tabulary/tabularyref13.around", 172), (243, "tabulary/tabularyref13.atts", 223), (243, "tabulary/tabularyref13.blanks", 220), (243, "tabulary/tabularyref13.comment", 221), (243, "tabulary/tabularyref13.elem", 173), (243, "tabulary/tabularyref13.fail", 171), (243, "tabulary/tabularyref13.has", 169), (243, "tabulary/tabularyref13.inside", 225), (243, "tabulary/tabularyref13.read", 258), (243, "tabulary/tabularyref13.upto", 170), (243, "tabulary/tabularyref13.word", 222), (254, "strings.contains", 227), (260, "Grow", 362), (260, "Reset", 357), (260, "String", 189), (260, "Write", 358), (260, "WriteByte", 278), (260, "WriteString", 235), (260, "strings.copyCheck", 262), (260, "strings.grow", 363), (280, "tabulary/xml.find", 213), (331, "Replace", 264), (331, "WriteString", 380), (331, "strings.build", 307), (331, "strings.buildOnce", 295), (386, "Do", 294), (386, "sync.doSlow", 306), (388, "Next", 302), (391, "Load", 305), (391, "Store", 313), (395, "Replace", 359), (395, "WriteString", 360), (397, "Replace", 365), (397, "WriteString", 366), (397, "strings.lookup", 368), (400, "Replace", 369), (400, "WriteString", 370), (404, "Replace", 371), (404, "WriteString", 372), (405, "Lock", 311), (405, "Unlock", 312), (408, "strings.next", 361), (412, "strings.add", 321), (419, "Lock", 316), (419, "Unlock", 317), (419, "internal/sync.lockSlow", 326), (419, "internal/sync.unlockSlow", 329), (437, "String", 376), (446, "Write", 377), (446, "WriteString", 378), (456, "WriteString", 379)]
/-- Calls that leave new memory behind: (caller, callee); 999: any caller. -/
def growL : List (Nat × Nat) := [(999, 158), (999, 191), (999, 190), (999, 43), (999, 36), (999, 38), (999, 39), (999, 117), (999, 12), (48, 44)]
/-- Calls that are handed a look at memory. -/
def lentL : List (Nat × Nat) := [(999, 159), (999, 90), (999, 56), (999, 16), (999, 83), (999, 80), (999, 127), (999, 40)]
end Go.Dn

open Go Go.Dn Go.Proofs
namespace Go.Dn
def stepsL : List D := [.int .u64 4794697086780616226, .int .u64 8158064640168781261, .int .u64 13096744586834688815, .int .u64 16840607885511220156, .int .u64 4131703408338449720, .int .u64 6480981068601479193, .int .u64 10538285296894168987, .int .u64 12329834152419229976, .int .u64 15566598209576043074, .int .u64 1334009975649890238, .int .u64 2608012711638119052, .int .u64 6128411473006802146, .int .u64 8268148722764581231, .int .u64 9286055187155687089, .int .u64 11230858885718282805, .int .u64 13951009754708518548, .int .u64 16472876342353939154, .int .u64 17275323862435702243, .int .u64 1135362057144423861, .int .u64 2597628984639134821, .int .u64 3308224258029322869, .int .u64 5365058923640841347, .int .u64 6679025012923562964, .int .u64 8573033837759648693, .int .u64 10970295158949994411, .int .u64 12119686244451234320, .int .u64 12683024718118986047, .int .u64 13788192230050041572, .int .u64 14330467153632333762, .int .u64 15395433587784984357, .int .u64 489312712824947311, .int .u64 1452737877330783856, .int .u64 2861767655752347644, .int .u64 3322285676063803686, .int .u64 5560940570517711597, .int .u64 5996557281743188959, .int .u64 7280758554555802590, .int .u64 8532644243296465576, .int .u64 9350256976987008742, .int .u64 10552545826968843579, .int .u64 11727347734174303076, .int .u64 12113106623233404929, .int .u64 14000437183269869457, .int .u64 14369950271660146224, .int .u64 15101387698204529176, .int .u64 15463397548674623760, .int .u64 17586052441742319658, .int .u64 1182934255886127544, .int .u64 1847814050463011016, .int .u64 2177327727835720531, .int .u64 2830643537854262169, .int .u64 3796741975233480872, .int .u64 4115178125766777443, .int .u64 5681478168544905931, .int .u64 6601373596472566643, .int .u64 7507060721942968483, .int .u64 8399075790359081724, .int .u64 8693463985226723168, .int .u64 9568029438360202098, .int .u64 10144078919501101548, .int .u64 10430055236837252648, .int .u64 11840083180663258601, .int .u64 13761210420658862357, .int .u64 14299343276471374635, .int .u64 14566680578165727644, .int .u64 15097957966210449927, .int .u64 16922976911328602910, .int .u64 17689382322260857208, .int .u64 500013540394364858, .int .u64 748580250866718886, .int .u64 1242879168328830382, .int .u64 1977374033974150939, .int .u64 2944078676154940804, .int .u64 3659926193048069267, .int .u64 4368137639120453308, .int .u64 4836135668995329356, .int .u64 5532061633213252278, .int .u64 6448918945643986474, .int .u64 6902733635092675308, .int .u64 7801388544844847127]
def startsL : List D := [.int .u64 7640891576956012808, .int .u64 13503953896175478587, .int .u64 4354685564936845355, .int .u64 11912009170470909681, .int .u64 5840696475078001361, .int .u64 11170449401992604703, .int .u64 2270897969802886507, .int .u64 6620516959819538809]
def gl1 : List D := stepsL
def gl0 : List D := startsL
noncomputable def Fn (g : FuncId) : Option Func := if badL.contains g then none else Tryz.funcs[g]?
def isIn (l : List (Nat × Nat)) (f g : Nat) : Bool := l.any fun p => p.2 == g && (p.1 == 999 || p.1 == f)
noncomputable def An : Ann where
  ty := tyOf Tryz.prog
  mode := fun f g => if isIn growL f g then .grow else if isIn lentL f g then .lent else .auto
  ro := fun f t => roL.any fun p => p.1 == f && p.2 == t
  fz := fun f t => fzL.any fun p => p.1 == f && p.2 == t
  glob := fun g => if g = 1 then some gl1 else if g = 0 then some gl0 else none
  meth := fun t n => if t = 35 then (if n = "Blocks" then some 353 else if n = "Read" then some 354 else if n = "Write" then some 355 else none) else none
  ord := fun _ _ => none
  pairs := fun f id => match pairL.find? fun x => x.1 == f && x.2.1 == id with | some x => x.2.2 | none => []
  ntmps := fun f => match Fn f with | some fn => fn.ntmps | none => 0
  eqT := fun t => t == 185
@[simp] theorem ty2 : An.ty 2 = { kd := .int .i64, size := 1, agg := false, zero := [.int .i64 0] } := by kernel_rfl
@[simp] theorem ty3 : An.ty 3 = { kd := .int .i64, size := 1, agg := false, zero := [.int .i64 0] } := by kernel_rfl
@[simp] theorem ty4 : An.ty 4 = { kd := .bool, size := 1, agg := false, zero := [.bool false] } := by kernel_rfl
@[simp] theorem ty5 : An.ty 5 = { kd := .int .u8, size := 1, agg := false, zero := [.int .u8 0] } := by kernel_rfl
@[simp] theorem ty6 : An.ty 6 = { kd := .int .u8, size := 1, agg := false, zero := [.int .u8 0] } := by kernel_rfl
@[simp] theorem ty7 : An.ty 7 = { kd := .struct [(0, 1, false), (1, 1, false), (2, 1, false), (3, 1, false)], size := 4, agg := true, zero := [.int .i64 0, .int .i64 0, .bool false, .int .u8 0] } := by kernel_rfl
@[simp] theorem ty8 : An.ty 8 = { kd := .struct [(0, 1, false), (1, 1, false), (2, 1, false), (3, 1, false)], size := 4, agg := true, zero := [.int .i64 0, .int .i64 0, .bool false, .int .u8 0] } := by kernel_rfl
@[simp] theorem ty9 : An.ty 9 = { kd := .str, size := 1, agg := false, zero := [.str []] } := by kernel_rfl
@[simp] theorem ty10 : An.ty 10 = { kd := .str, size := 1, agg := false, zero := [.str []] } := by kernel_rfl
@[simp] theorem ty11 : An.ty 11 = { kd := .str, size := 1, agg := false, zero := [.str []] } := by kernel_rfl
@[simp] theorem ty12 : An.ty 12 = { kd := .int .u64, size := 1, agg := false, zero := [.int .u64 0] } := by kernel_rfl
@[simp] theorem ty13 : An.ty 13 = { kd := .struct [(0, 1, false), (1, 1, false)], size := 2, agg := true, zero := [.str [], .int .u64 0] } := by kernel_rfl
@[simp] theorem ty14 : An.ty 14 = { kd := .struct [(0, 1, false), (1, 1, false)], size := 2, agg := true, zero := [.str [], .int .u64 0] } := by kernel_rfl
@[simp] theorem ty15 : An.ty 15 = { kd := .ptr, size := 1, agg := false, zero := [.nilp] } := by kernel_rfl
@[simp] theorem ty16 : An.ty 16 = { kd := .ptr, size := 1, agg := false, zero := [.nilp] } := by kernel_rfl
@[simp] theorem ty17 : An.ty 17 = { kd := .ptr, size := 1, agg := false, zero := [.nilp] } := by kernel_rfl
@[simp] theorem ty18 : An.ty 18 = { kd := .struct [(0, 1, false)], size := 1, agg := true, zero := [.nilp] } := by kernel_rfl
@[simp] theorem ty19 : An.ty 19 = { kd := .struct [(0, 1, false)], size := 1, agg := true, zero := [.nilp] } := by kernel_rfl
@[simp] theorem ty20 : An.ty 20 = { kd := .iface, size := 1, agg := false, zero := [.nilif] } := by kernel_rfl
@[simp] theorem ty21 : An.ty 21 = { kd := .int .i32, size := 1, agg := false, zero := [.int .i32 0] } := by kernel_rfl
@[simp] theorem ty22 : An.ty 22 = { kd := .slice 4 56 [.str [], .int .i64 0, .nils, .bool false] false, size := 1, agg := false, zero := [.nils] } := by kernel_rfl
@[simp] theorem ty23 : An.ty 23 = { kd := .struct [(0, 1, false), (1, 1, false), (2, 1, false)], size := 3, agg := true, zero := [.nils, .bool false, .bool false] } := by kernel_rfl
@[simp] theorem ty24 : An.ty 24 = { kd := .struct [(0, 1, false), (1, 1, false), (2, 1, false)], size := 3, agg := true, zero := [.nils, .bool false, .bool false] } := by kernel_rfl
@[simp] theorem ty25 : An.ty 25 = { kd := .slice 5 96 [.str [], .str [], .nils, .str [], .nils] false, size := 1, agg := false, zero := [.nils] } := by kernel_rfl
@[simp] theorem ty27 : An.ty 27 = { kd := .ptr, size := 1, agg := false, zero := [.nilp] } := by kernel_rfl
@[simp] theorem ty30 : An.ty 30 = { kd := .slice 1 16 [.str []] false, size := 1, agg := false, zero := [.nils] } := by kernel_rfl
@[simp] theorem ty31 : An.ty 31 = { kd := .struct [(0, 1, false), (1, 1, false)], size := 2, agg := true, zero := [.int .i64 0, .nils] } := by kernel_rfl
@[simp] theorem ty32 : An.ty 32 = { kd := .struct [(0, 1, false), (1, 1, false)], size := 2, agg := true, zero := [.int .i64 0, .nils] } := by kernel_rfl
@[simp] theorem ty33 : An.ty 33 = { kd := .slice 3 56 [.str [], .str [], .nils] false, size := 1, agg := false, zero := [.nils] } := by kernel_rfl
@[simp] theorem ty34 : An.ty 34 = { kd := .ptr, size := 1, agg := false, zero := [.nilp] } := by kernel_rfl
@[simp] theorem ty35 : An.ty 35 = { kd := .ptr, size := 1, agg := false, zero := [.nilp] } := by kernel_rfl
@[simp] theorem ty36 : An.ty 36 = { kd := .ptr, size := 1, agg := false, zero := [.nilp] } := by kernel_rfl
@[simp] theorem ty37 : An.ty 37 = { kd := .struct [(0, 1, false), (1, 1, false), (2, 1, false)], size := 3, agg := true, zero := [.nilp, .nilp, .nilp] } := by kernel_rfl
@[simp] theorem ty38 : An.ty 38 = { kd := .struct [(0, 1, false), (1, 1, false), (2, 1, false)], size := 3, agg := true, zero := [.nilp, .nilp, .nilp] } := by kernel_rfl
@[simp] theorem ty40 : An.ty 40 = { kd := .slice 1 8 [.int .i64 0] false, size := 1, agg := false, zero := [.nils] } := by kernel_rfl
@[simp] theorem ty42 : An.ty 42 = { kd := .struct [(0, 1, false), (1, 1, false), (2, 1, false), (3, 1, false), (4, 1, false), (5, 1, false), (6, 1, false), (7, 1, false), (8, 1, false), (9, 1, false), (10, 1, false), (11, 1, false), (12, 1, false), (13, 1, false), (14, 1, false), (15, 1, false)], size := 16, agg := true, zero := [.str [], .str [], .int .i64 0, .int .i64 0, .bool false, .nils, .int .i64 0, .int .i64 0, .int .i64 0, .bool false, .nils, .bool false, .int .i64 0, .str [], .str [], .int .i64 0] } := by kernel_rfl
@[simp] theorem ty43 : An.ty 43 = { kd := .struct [(0, 1, false), (1, 1, false), (2, 1, false), (3, 1, false), (4, 1, false), (5, 1, false), (6, 1, false), (7, 1, false), (8, 1, false), (9, 1, false), (10, 1, false), (11, 1, false), (12, 1, false), (13, 1, false), (14, 1, false), (15, 1, false)], size := 16, agg := true, zero := [.str [], .str [], .int .i64 0, .int .i64 0, .bool false, .nils, .int .i64 0, .int .i64 0, .int .i64 0, .bool false, .nils, .bool false, .int .i64 0, .str [], .str [], .int .i64 0] } := by kernel_rfl
@[simp] theorem ty44 : An.ty 44 = { kd := .int .i64, size := 1, agg := false, zero := [.int .i64 0] } := by kernel_rfl
@[simp] theorem ty47 : An.ty 47 = { kd := .arr 2 1 false, size := 2, agg := true, zero := [.int .i64 0, .int .i64 0] } := by kernel_rfl
@[simp] theorem ty50 : An.ty 50 = { kd := .slice 7 112 [.str [], .int .i64 0, .int .i64 0, .nils, .bool false, .nils, .nils] false, size := 1, agg := false, zero := [.nils] } := by kernel_rfl
@[simp] theorem ty54 : An.ty 54 = { kd := .arr 2 1 false, size := 2, agg := true, zero := [.nils, .nils] } := by kernel_rfl
@[simp] theorem ty60 : An.ty 60 = { kd := .slice 20 240 [.int .i64 0, .int .i64 0, .nils, .int .i64 0, .str [], .str [], .int .i64 0, .int .i64 0, .bool false, .nils, .int .i64 0, .int .i64 0, .int .i64 0, .bool false, .nils, .bool false, .int .i64 0, .str [], .str [], .int .i64 0] false, size := 1, agg := false, zero := [.nils] } := by kernel_rfl
@[simp] theorem ty62 : An.ty 62 = { kd := .struct [(0, 1, false), (1, 1, false), (2, 1, false), (3, 1, false), (4, 16, true)], size := 20, agg := true, zero := [.int .i64 0, .int .i64 0, .nils, .int .i64 0, .str [], .str [], .int .i64 0, .int .i64 0, .bool false, .nils, .int .i64 0, .int .i64 0, .int .i64 0, .bool false, .nils, .bool false, .int .i64 0, .str [], .str [], .int .i64 0] } := by kernel_rfl
@[simp] theorem ty63 : An.ty 63 = { kd := .struct [(0, 1, false), (1, 1, false), (2, 1, false), (3, 1, false), (4, 16, true)], size := 20, agg := true, zero := [.int .i64 0, .int .i64 0, .nils, .int .i64 0, .str [], .str [], .int .i64 0, .int .i64 0, .bool false, .nils, .int .i64 0, .int .i64 0, .int .i64 0, .bool false, .nils, .bool false, .int .i64 0, .str [], .str [], .int .i64 0] } := by kernel_rfl
@[simp] theorem ty73 : An.ty 73 = { kd := .struct [(0, 1, false), (1, 1, false), (2, 1, false)], size := 3, agg := true, zero := [.str [], .str [], .bool false] } := by kernel_rfl
@[simp] theorem ty74 : An.ty 74 = { kd := .struct [(0, 1, false), (1, 1, false), (2, 1, false)], size := 3, agg := true, zero := [.str [], .str [], .bool false] } := by kernel_rfl
@[simp] theorem ty75 : An.ty 75 = { kd := .struct [(0, 1, false), (1, 1, false), (2, 1, false), (3, 3, true), (6, 3, true)], size := 9, agg := true, zero := [.int .i64 0, .int .i64 0, .bool false, .str [], .str [], .bool false, .str [], .str [], .bool false] } := by kernel_rfl
@[simp] theorem ty76 : An.ty 76 = { kd := .struct [(0, 1, false), (1, 1, false), (2, 1, false), (3, 3, true), (6, 3, true)], size := 9, agg := true, zero := [.int .i64 0, .int .i64 0, .bool false, .str [], .str [], .bool false, .str [], .str [], .bool false] } := by kernel_rfl
@[simp] theorem ty77 : An.ty 77 = { kd := .ptr, size := 1, agg := false, zero := [.nilp] } := by kernel_rfl
@[simp] theorem ty78 : An.ty 78 = { kd := .arr 4 1 false, size := 4, agg := true, zero := [.nils, .nils, .nils, .nils] } := by kernel_rfl
@[simp] theorem ty79 : An.ty 79 = { kd := .arr 4 1 false, size := 4, agg := true, zero := [.int .i64 0, .int .i64 0, .int .i64 0, .int .i64 0] } := by kernel_rfl
@[simp] theorem ty80 : An.ty 80 = { kd := .struct [(0, 1, false), (1, 3, true), (4, 1, false), (5, 4, true), (9, 4, true), (13, 1, false), (14, 1, false), (15, 1, false), (16, 1, false), (17, 1, false)], size := 18, agg := true, zero := [.nils, .nils, .bool false, .bool false, .nilp, .nils, .nils, .nils, .nils, .int .i64 0, .int .i64 0, .int .i64 0, .int .i64 0, .int .i64 0, .nils, .int .i64 0, .int .i64 0, .str []] } := by kernel_rfl
@[simp] theorem ty81 : An.ty 81 = { kd := .struct [(0, 1, false), (1, 3, true), (4, 1, false), (5, 4, true), (9, 4, true), (13, 1, false), (14, 1, false), (15, 1, false), (16, 1, false), (17, 1, false)], size := 18, agg := true, zero := [.nils, .nils, .bool false, .bool false, .nilp, .nils, .nils, .nils, .nils, .int .i64 0, .int .i64 0, .int .i64 0, .int .i64 0, .int .i64 0, .nils, .int .i64 0, .int .i64 0, .str []] } := by kernel_rfl
@[simp] theorem ty82 : An.ty 82 = { kd := .ptr, size := 1, agg := false, zero := [.nilp] } := by kernel_rfl
@[simp] theorem ty83 : An.ty 83 = { kd := .struct [(0, 1, false), (1, 1, false), (2, 1, false)], size := 3, agg := true, zero := [.str [], .str [], .bool false] } := by kernel_rfl
@[simp] theorem ty88 : An.ty 88 = { kd := .slice 3 40 [.str [], .str [], .bool false] false, size := 1, agg := false, zero := [.nils] } := by kernel_rfl
@[simp] theorem ty91 : An.ty 91 = { kd := .slice 2 32 [.str [], .str []] false, size := 1, agg := false, zero := [.nils] } := by kernel_rfl
@[simp] theorem ty92 : An.ty 92 = { kd := .struct [(0, 1, false), (1, 1, false), (2, 1, false), (3, 1, false), (4, 1, false)], size := 5, agg := true, zero := [.str [], .str [], .nils, .str [], .nils] } := by kernel_rfl
@[simp] theorem ty93 : An.ty 93 = { kd := .struct [(0, 1, false), (1, 1, false), (2, 1, false), (3, 1, false), (4, 1, false)], size := 5, agg := true, zero := [.str [], .str [], .nils, .str [], .nils] } := by kernel_rfl
@[simp] theorem ty100 : An.ty 100 = { kd := .struct [(0, 1, false), (1, 3, true), (4, 4, true), (8, 4, true), (12, 1, false), (13, 1, false), (14, 1, false), (15, 1, false), (16, 1, false), (17, 1, false)], size := 18, agg := true, zero := [.nils, .nils, .bool false, .bool false, .nils, .nils, .nils, .nils, .int .i64 0, .int .i64 0, .int .i64 0, .int .i64 0, .nilp, .int .i64 0, .nils, .int .i64 0, .int .i64 0, .str []] } := by kernel_rfl
@[simp] theorem ty101 : An.ty 101 = { kd := .struct [(0, 1, false), (1, 3, true), (4, 4, true), (8, 4, true), (12, 1, false), (13, 1, false), (14, 1, false), (15, 1, false), (16, 1, false), (17, 1, false)], size := 18, agg := true, zero := [.nils, .nils, .bool false, .bool false, .nils, .nils, .nils, .nils, .int .i64 0, .int .i64 0, .int .i64 0, .int .i64 0, .nilp, .int .i64 0, .nils, .int .i64 0, .int .i64 0, .str []] } := by kernel_rfl
@[simp] theorem ty103 : An.ty 103 = { kd := .slice 4 64 [.str [], .str [], .int .i64 0, .nils] false, size := 1, agg := false, zero := [.nils] } := by kernel_rfl
@[simp] theorem ty109 : An.ty 109 = { kd := .struct [(0, 1, false), (1, 1, false), (2, 1, false)], size := 3, agg := true, zero := [.str [], .str [], .nils] } := by kernel_rfl
@[simp] theorem ty110 : An.ty 110 = { kd := .struct [(0, 1, false), (1, 1, false), (2, 1, false)], size := 3, agg := true, zero := [.str [], .str [], .nils] } := by kernel_rfl
@[simp] theorem ty112 : An.ty 112 = { kd := .slice 1 8 [.int .i64 0] false, size := 1, agg := false, zero := [.nils] } := by kernel_rfl
@[simp] theorem ty115 : An.ty 115 = { kd := .struct [(0, 1, false), (1, 1, false), (2, 1, false), (3, 1, false), (4, 1, false), (5, 1, false), (6, 1, false)], size := 7, agg := true, zero := [.str [], .int .i64 0, .int .i64 0, .nils, .bool false, .nils, .nils] } := by kernel_rfl
@[simp] theorem ty116 : An.ty 116 = { kd := .struct [(0, 1, false), (1, 1, false), (2, 1, false), (3, 1, false), (4, 1, false), (5, 1, false), (6, 1, false)], size := 7, agg := true, zero := [.str [], .int .i64 0, .int .i64 0, .nils, .bool false, .nils, .nils] } := by kernel_rfl
@[simp] theorem ty124 : An.ty 124 = { kd := .struct [(0, 1, false), (1, 1, false), (2, 1, false), (3, 1, false), (4, 1, false), (5, 1, false), (6, 1, false), (7, 1, false), (8, 1, false), (9, 1, false), (10, 1, false), (11, 1, false), (12, 1, false), (13, 1, false), (14, 1, false), (15, 1, false)], size := 16, agg := true, zero := [.str [], .str [], .int .i64 0, .int .i64 0, .bool false, .nils, .int .i64 0, .int .i64 0, .int .i64 0, .bool false, .nils, .bool false, .int .i64 0, .str [], .str [], .int .i64 0] } := by kernel_rfl
@[simp] theorem ty136 : An.ty 136 = { kd := .slice 64 64 [.int .u8 0, .int .u8 0, .int .u8 0, .int .u8 0, .int .u8 0, .int .u8 0, .int .u8 0, .int .u8 0, .int .u8 0, .int .u8 0, .int .u8 0, .int .u8 0, .int .u8 0, .int .u8 0, .int .u8 0, .int .u8 0, .int .u8 0, .int .u8 0, .int .u8 0, .int .u8 0, .int .u8 0, .int .u8 0, .int .u8 0, .int .u8 0, .int .u8 0, .int .u8 0, .int .u8 0, .int .u8 0, .int .u8 0, .int .u8 0, .int .u8 0, .int .u8 0, .int .u8 0, .int .u8 0, .int .u8 0, .int .u8 0, .int .u8 0, .int .u8 0, .int .u8 0, .int .u8 0, .int .u8 0, .int .u8 0, .int .u8 0, .int .u8 0, .int .u8 0, .int .u8 0, .int .u8 0, .int .u8 0, .int .u8 0, .int .u8 0, .int .u8 0, .int .u8 0, .int .u8 0, .int .u8 0, .int .u8 0, .int .u8 0, .int .u8 0, .int .u8 0, .int .u8 0, .int .u8 0, .int .u8 0, .int .u8 0, .int .u8 0, .int .u8 0] false, size := 1, agg := false, zero := [.nils] } := by kernel_rfl
@[simp] theorem ty137 : An.ty 137 = { kd := .struct [(0, 1, false), (1, 1, false), (2, 1, false), (3, 1, false)], size := 4, agg := true, zero := [.nils, .int .i64 0, .int .i64 0, .bool false] } := by kernel_rfl
@[simp] theorem ty138 : An.ty 138 = { kd := .struct [(0, 1, false), (1, 1, false), (2, 1, false), (3, 1, false)], size := 4, agg := true, zero := [.nils, .int .i64 0, .int .i64 0, .bool false] } := by kernel_rfl
@[simp] theorem ty139 : An.ty 139 = { kd := .iface, size := 1, agg := false, zero := [.nilif] } := by kernel_rfl
@[simp] theorem ty140 : An.ty 140 = { kd := .iface, size := 1, agg := false, zero := [.nilif] } := by kernel_rfl
@[simp] theorem ty141 : An.ty 141 = { kd := .int .u64, size := 1, agg := false, zero := [.int .u64 0] } := by kernel_rfl
@[simp] theorem ty142 : An.ty 142 = { kd := .struct [(0, 1, false), (1, 1, false), (2, 1, false)], size := 3, agg := true, zero := [.nilif, .int .u64 0, .int .i64 0] } := by kernel_rfl
@[simp] theorem ty143 : An.ty 143 = { kd := .struct [(0, 1, false), (1, 1, false), (2, 1, false)], size := 3, agg := true, zero := [.nilif, .int .u64 0, .int .i64 0] } := by kernel_rfl
@[simp] theorem ty148 : An.ty 148 = { kd := .struct [(0, 1, false), (1, 1, false), (2, 1, false), (3, 1, false)], size := 4, agg := true, zero := [.str [], .int .i64 0, .nils, .bool false] } := by kernel_rfl
@[simp] theorem ty149 : An.ty 149 = { kd := .struct [(0, 1, false), (1, 1, false), (2, 1, false), (3, 1, false)], size := 4, agg := true, zero := [.str [], .int .i64 0, .nils, .bool false] } := by kernel_rfl
@[simp] theorem ty155 : An.ty 155 = { kd := .struct [(0, 1, false), (1, 1, false), (2, 1, false), (3, 1, false)], size := 4, agg := true, zero := [.str [], .str [], .int .i64 0, .nils] } := by kernel_rfl
@[simp] theorem ty156 : An.ty 156 = { kd := .struct [(0, 1, false), (1, 1, false), (2, 1, false), (3, 1, false)], size := 4, agg := true, zero := [.str [], .str [], .int .i64 0, .nils] } := by kernel_rfl
@[simp] theorem ty157 : An.ty 157 = { kd := .struct [(0, 1, false), (1, 1, false)], size := 2, agg := true, zero := [.str [], .str []] } := by kernel_rfl
@[simp] theorem ty158 : An.ty 158 = { kd := .struct [(0, 1, false), (1, 1, false)], size := 2, agg := true, zero := [.str [], .str []] } := by kernel_rfl
@[simp] theorem ty182 : An.ty 182 = { kd := .ptr, size := 1, agg := false, zero := [.nilp] } := by kernel_rfl
@[simp] theorem ty187 : An.ty 187 = { kd := .ptr, size := 1, agg := false, zero := [.nilp] } := by kernel_rfl
@[simp] theorem ty189 : An.ty 189 = { kd := .slice 1 1 [.int .u8 0] true, size := 1, agg := false, zero := [.nils] } := by kernel_rfl
@[simp] theorem ty190 : An.ty 190 = { kd := .int .u32, size := 1, agg := false, zero := [.int .u32 0] } := by kernel_rfl
@[simp] theorem ty192 : An.ty 192 = { kd := .int .u64, size := 1, agg := false, zero := [.int .u64 0] } := by kernel_rfl
@[simp] theorem ty216 : An.ty 216 = { kd := .slice 3 32 [.bool false, .bool false, .nils] false, size := 1, agg := false, zero := [.nils] } := by kernel_rfl
@[simp] theorem ty222 : An.ty 222 = { kd := .slice 1 8 [.nilp] false, size := 1, agg := false, zero := [.nils] } := by kernel_rfl
@[simp] theorem ty223 : An.ty 223 = { kd := .struct [(0, 1, false), (1, 1, false)], size := 2, agg := true, zero := [.bool false, .nils] } := by kernel_rfl
@[simp] theorem ty224 : An.ty 224 = { kd := .struct [(0, 1, false), (1, 1, false)], size := 2, agg := true, zero := [.bool false, .nils] } := by kernel_rfl
@[simp] theorem ty227 : An.ty 227 = { kd := .struct [(0, 1, false), (1, 1, false)], size := 2, agg := true, zero := [.nils, .bool false] } := by kernel_rfl
@[simp] theorem ty228 : An.ty 228 = { kd := .struct [(0, 1, false), (1, 1, false)], size := 2, agg := true, zero := [.nils, .bool false] } := by kernel_rfl
@[simp] theorem ty231 : An.ty 231 = { kd := .arr 32 1 false, size := 32, agg := true, zero := [.int .u8 0, .int .u8 0, .int .u8 0, .int .u8 0, .int .u8 0, .int .u8 0, .int .u8 0, .int .u8 0, .int .u8 0, .int .u8 0, .int .u8 0, .int .u8 0, .int .u8 0, .int .u8 0, .int .u8 0, .int .u8 0, .int .u8 0, .int .u8 0, .int .u8 0, .int .u8 0, .int .u8 0, .int .u8 0, .int .u8 0, .int .u8 0, .int .u8 0, .int .u8 0, .int .u8 0, .int .u8 0, .int .u8 0, .int .u8 0, .int .u8 0, .int .u8 0] } := by kernel_rfl
@[simp] theorem ty235 : An.ty 235 = { kd := .ptr, size := 1, agg := false, zero := [.nilp] } := by kernel_rfl
@[simp] theorem ty236 : An.ty 236 = { kd := .struct [(0, 1, false), (1, 1, false)], size := 2, agg := true, zero := [.str [], .int .i64 0] } := by kernel_rfl
@[simp] theorem ty237 : An.ty 237 = { kd := .struct [(0, 1, false), (1, 1, false)], size := 2, agg := true, zero := [.str [], .int .i64 0] } := by kernel_rfl
@[simp] theorem ty243 : An.ty 243 = { kd := .ptr, size := 1, agg := false, zero := [.nilp] } := by kernel_rfl
@[simp] theorem ty244 : An.ty 244 = { kd := .struct [(0, 1, false), (1, 1, false), (2, 1, false)], size := 3, agg := true, zero := [.str [], .int .i64 0, .int .i64 0] } := by kernel_rfl
@[simp] theorem ty245 : An.ty 245 = { kd := .struct [(0, 1, false), (1, 1, false), (2, 1, false)], size := 3, agg := true, zero := [.str [], .int .i64 0, .int .i64 0] } := by kernel_rfl
@[simp] theorem ty254 : An.ty 254 = { kd := .ptr, size := 1, agg := false, zero := [.nilp] } := by kernel_rfl
@[simp] theorem ty260 : An.ty 260 = { kd := .ptr, size := 1, agg := false, zero := [.nilp] } := by kernel_rfl
@[simp] theorem ty261 : An.ty 261 = { kd := .struct [(0, 1, false), (1, 1, false)], size := 2, agg := true, zero := [.nilp, .nils] } := by kernel_rfl
@[simp] theorem ty262 : An.ty 262 = { kd := .struct [(0, 1, false), (1, 1, false)], size := 2, agg := true, zero := [.nilp, .nils] } := by kernel_rfl
@[simp] theorem ty266 : An.ty 266 = { kd := .struct [(0, 1, false), (1, 1, false), (2, 1, false)], size := 3, agg := true, zero := [.bool false, .bool false, .nils] } := by kernel_rfl
@[simp] theorem ty267 : An.ty 267 = { kd := .struct [(0, 1, false), (1, 1, false), (2, 1, false)], size := 3, agg := true, zero := [.bool false, .bool false, .nils] } := by kernel_rfl
@[simp] theorem ty274 : An.ty 274 = { kd := .arr 8 1 false, size := 8, agg := true, zero := [.int .u32 0, .int .u32 0, .int .u32 0, .int .u32 0, .int .u32 0, .int .u32 0, .int .u32 0, .int .u32 0] } := by kernel_rfl
@[simp] theorem ty275 : An.ty 275 = { kd := .arr 8 1 false, size := 8, agg := true, zero := [.int .u64 0, .int .u64 0, .int .u64 0, .int .u64 0, .int .u64 0, .int .u64 0, .int .u64 0, .int .u64 0] } := by kernel_rfl
@[simp] theorem ty280 : An.ty 280 = { kd := .ptr, size := 1, agg := false, zero := [.nilp] } := by kernel_rfl
@[simp] theorem ty284 : An.ty 284 = { kd := .slice 3 48 [.str [], .str [], .str []] false, size := 1, agg := false, zero := [.nils] } := by kernel_rfl
@[simp] theorem ty287 : An.ty 287 = { kd := .struct [(0, 1, false), (1, 1, false)], size := 2, agg := true, zero := [.str [], .str []] } := by kernel_rfl
@[simp] theorem ty288 : An.ty 288 = { kd := .struct [(0, 1, false), (1, 1, false)], size := 2, agg := true, zero := [.str [], .str []] } := by kernel_rfl
@[simp] theorem ty289 : An.ty 289 = { kd := .struct [(0, 2, true), (2, 1, false)], size := 3, agg := true, zero := [.str [], .str [], .str []] } := by kernel_rfl
@[simp] theorem ty290 : An.ty 290 = { kd := .struct [(0, 2, true), (2, 1, false)], size := 3, agg := true, zero := [.str [], .str [], .str []] } := by kernel_rfl
@[simp] theorem ty291 : An.ty 291 = { kd := .struct [(0, 1, false), (1, 1, false), (2, 1, false)], size := 3, agg := true, zero := [.nilp, .str [], .str []] } := by kernel_rfl
@[simp] theorem ty292 : An.ty 292 = { kd := .struct [(0, 1, false), (1, 1, false), (2, 1, false)], size := 3, agg := true, zero := [.nilp, .str [], .str []] } := by kernel_rfl
@[simp] theorem ty298 : An.ty 298 = { kd := .ptr, size := 1, agg := false, zero := [.nilp] } := by kernel_rfl
@[simp] theorem ty299 : An.ty 299 = { kd := .slice 3 48 [.str [], .str [], .str []] false, size := 1, agg := false, zero := [.nils] } := by kernel_rfl
@[simp] theorem ty303 : An.ty 303 = { kd := .struct [(0, 1, false), (1, 1, false), (2, 1, false)], size := 3, agg := true, zero := [.str [], .str [], .str []] } := by kernel_rfl
@[simp] theorem ty304 : An.ty 304 = { kd := .struct [(0, 1, false), (1, 1, false), (2, 1, false)], size := 3, agg := true, zero := [.str [], .str [], .str []] } := by kernel_rfl
@[simp] theorem ty313 : An.ty 313 = { kd := .iface, size := 1, agg := false, zero := [.nilif] } := by kernel_rfl
@[simp] theorem ty314 : An.ty 314 = { kd := .iface, size := 1, agg := false, zero := [.nilif] } := by kernel_rfl
@[simp] theorem ty317 : An.ty 317 = { kd := .ptr, size := 1, agg := false, zero := [.nilp] } := by kernel_rfl
@[simp] theorem ty331 : An.ty 331 = { kd := .ptr, size := 1, agg := false, zero := [.nilp] } := by kernel_rfl
@[simp] theorem ty334 : An.ty 334 = { kd := .arr 3 1 false, size := 3, agg := true, zero := [.int .i64 0, .int .i64 0, .int .i64 0] } := by kernel_rfl
@[simp] theorem ty335 : An.ty 335 = { kd := .arr 4 3 true, size := 12, agg := true, zero := [.int .i64 0, .int .i64 0, .int .i64 0, .int .i64 0, .int .i64 0, .int .i64 0, .int .i64 0, .int .i64 0, .int .i64 0, .int .i64 0, .int .i64 0, .int .i64 0] } := by kernel_rfl
@[simp] theorem ty345 : An.ty 345 = { kd := .int .i64, size := 1, agg := false, zero := [.int .i64 0] } := by kernel_rfl
@[simp] theorem ty355 : An.ty 355 = { kd := .struct [(0, 1, false), (1, 1, false)], size := 2, agg := true, zero := [.int .u8 0, .int .u8 0] } := by kernel_rfl
@[simp] theorem ty356 : An.ty 356 = { kd := .struct [(0, 1, false), (1, 1, false)], size := 2, agg := true, zero := [.int .u8 0, .int .u8 0] } := by kernel_rfl
@[simp] theorem ty357 : An.ty 357 = { kd := .arr 16 2 true, size := 32, agg := true, zero := [.int .u8 0, .int .u8 0, .int .u8 0, .int .u8 0, .int .u8 0, .int .u8 0, .int .u8 0, .int .u8 0, .int .u8 0, .int .u8 0, .int .u8 0, .int .u8 0, .int .u8 0, .int .u8 0, .int .u8 0, .int .u8 0, .int .u8 0, .int .u8 0, .int .u8 0, .int .u8 0, .int .u8 0, .int .u8 0, .int .u8 0, .int .u8 0, .int .u8 0, .int .u8 0, .int .u8 0, .int .u8 0, .int .u8 0, .int .u8 0, .int .u8 0, .int .u8 0] } := by kernel_rfl
@[simp] theorem ty360 : An.ty 360 = { kd := .struct [], size := 0, agg := true, zero := [] } := by kernel_rfl
@[simp] theorem ty361 : An.ty 361 = { kd := .struct [], size := 0, agg := true, zero := [] } := by kernel_rfl
@[simp] theorem ty362 : An.ty 362 = { kd := .struct [], size := 0, agg := true, zero := [] } := by kernel_rfl
@[simp] theorem ty363 : An.ty 363 = { kd := .struct [(0, 0, true), (0, 1, false)], size := 1, agg := true, zero := [.int .u32 0] } := by kernel_rfl
@[simp] theorem ty364 : An.ty 364 = { kd := .struct [(0, 0, true), (0, 1, false)], size := 1, agg := true, zero := [.int .u32 0] } := by kernel_rfl
@[simp] theorem ty365 : An.ty 365 = { kd := .struct [(0, 1, false), (1, 1, false)], size := 2, agg := true, zero := [.int .i32 0, .int .u32 0] } := by kernel_rfl
@[simp] theorem ty366 : An.ty 366 = { kd := .struct [(0, 1, false), (1, 1, false)], size := 2, agg := true, zero := [.int .i32 0, .int .u32 0] } := by kernel_rfl
@[simp] theorem ty367 : An.ty 367 = { kd := .struct [(0, 0, true), (0, 2, true)], size := 2, agg := true, zero := [.int .i32 0, .int .u32 0] } := by kernel_rfl
@[simp] theorem ty368 : An.ty 368 = { kd := .struct [(0, 0, true), (0, 2, true)], size := 2, agg := true, zero := [.int .i32 0, .int .u32 0] } := by kernel_rfl
@[simp] theorem ty369 : An.ty 369 = { kd := .struct [(0, 0, true), (0, 1, true), (1, 2, true)], size := 3, agg := true, zero := [.int .u32 0, .int .i32 0, .int .u32 0] } := by kernel_rfl
@[simp] theorem ty370 : An.ty 370 = { kd := .struct [(0, 0, true), (0, 1, true), (1, 2, true)], size := 3, agg := true, zero := [.int .u32 0, .int .i32 0, .int .u32 0] } := by kernel_rfl
@[simp] theorem ty371 : An.ty 371 = { kd := .iface, size := 1, agg := false, zero := [.nilif] } := by kernel_rfl
@[simp] theorem ty372 : An.ty 372 = { kd := .iface, size := 1, agg := false, zero := [.nilif] } := by kernel_rfl
@[simp] theorem ty373 : An.ty 373 = { kd := .struct [(0, 3, true), (3, 1, false), (4, 1, false)], size := 5, agg := true, zero := [.int .u32 0, .int .i32 0, .int .u32 0, .nilif, .nils] } := by kernel_rfl
@[simp] theorem ty374 : An.ty 374 = { kd := .struct [(0, 3, true), (3, 1, false), (4, 1, false)], size := 5, agg := true, zero := [.int .u32 0, .int .i32 0, .int .u32 0, .nilif, .nils] } := by kernel_rfl
@[simp] theorem ty380 : An.ty 380 = { kd := .int .u64, size := 1, agg := false, zero := [.int .u64 0] } := by kernel_rfl
@[simp] theorem ty384 : An.ty 384 = { kd := .ptr, size := 1, agg := false, zero := [.nilp] } := by kernel_rfl
@[simp] theorem ty386 : An.ty 386 = { kd := .ptr, size := 1, agg := false, zero := [.nilp] } := by kernel_rfl
@[simp] theorem ty388 : An.ty 388 = { kd := .ptr, size := 1, agg := false, zero := [.nilp] } := by kernel_rfl
@[simp] theorem ty391 : An.ty 391 = { kd := .ptr, size := 1, agg := false, zero := [.nilp] } := by kernel_rfl
@[simp] theorem ty393 : An.ty 393 = { kd := .ptr, size := 1, agg := false, zero := [.nilp] } := by kernel_rfl
@[simp] theorem ty395 : An.ty 395 = { kd := .ptr, size := 1, agg := false, zero := [.nilp] } := by kernel_rfl
@[simp] theorem ty397 : An.ty 397 = { kd := .ptr, size := 1, agg := false, zero := [.nilp] } := by kernel_rfl
@[simp] theorem ty400 : An.ty 400 = { kd := .ptr, size := 1, agg := false, zero := [.nilp] } := by kernel_rfl
@[simp] theorem ty404 : An.ty 404 = { kd := .ptr, size := 1, agg := false, zero := [.nilp] } := by kernel_rfl
@[simp] theorem ty405 : An.ty 405 = { kd := .ptr, size := 1, agg := false, zero := [.nilp] } := by kernel_rfl
@[simp] theorem ty408 : An.ty 408 = { kd := .ptr, size := 1, agg := false, zero := [.nilp] } := by kernel_rfl
@[simp] theorem ty410 : An.ty 410 = { kd := .struct [(0, 1, false), (1, 1, false)], size := 2, agg := true, zero := [.nilp, .str []] } := by kernel_rfl
@[simp] theorem ty411 : An.ty 411 = { kd := .struct [(0, 1, false), (1, 1, false)], size := 2, agg := true, zero := [.nilp, .str []] } := by kernel_rfl
@[simp] theorem ty412 : An.ty 412 = { kd := .ptr, size := 1, agg := false, zero := [.nilp] } := by kernel_rfl
@[simp] theorem ty413 : An.ty 413 = { kd := .slice 1 8 [.nilp] false, size := 1, agg := false, zero := [.nils] } := by kernel_rfl
@[simp] theorem ty414 : An.ty 414 = { kd := .struct [(0, 1, false), (1, 1, false), (2, 1, false), (3, 1, false), (4, 1, false)], size := 5, agg := true, zero := [.str [], .int .i64 0, .str [], .nilp, .nils] } := by kernel_rfl
@[simp] theorem ty415 : An.ty 415 = { kd := .struct [(0, 1, false), (1, 1, false), (2, 1, false), (3, 1, false), (4, 1, false)], size := 5, agg := true, zero := [.str [], .int .i64 0, .str [], .nilp, .nils] } := by kernel_rfl
@[simp] theorem ty419 : An.ty 419 = { kd := .ptr, size := 1, agg := false, zero := [.nilp] } := by kernel_rfl
@[simp] theorem ty421 : An.ty 421 = { kd := .ptr, size := 1, agg := false, zero := [.nilp] } := by kernel_rfl
@[simp] theorem ty431 : An.ty 431 = { kd := .struct [(0, 1, false), (1, 1, false), (2, 1, false), (3, 1, false)], size := 4, agg := true, zero := [.nilp, .nilp, .nilp, .str []] } := by kernel_rfl
@[simp] theorem ty432 : An.ty 432 = { kd := .struct [(0, 1, false), (1, 1, false), (2, 1, false), (3, 1, false)], size := 4, agg := true, zero := [.nilp, .nilp, .nilp, .str []] } := by kernel_rfl
@[simp] theorem ty433 : An.ty 433 = { kd := .arr 0 1 false, size := 0, agg := true, zero := [] } := by kernel_rfl
@[simp] theorem ty434 : An.ty 434 = { kd := .struct [(0, 0, true)], size := 0, agg := true, zero := [] } := by kernel_rfl
@[simp] theorem ty435 : An.ty 435 = { kd := .struct [(0, 0, true)], size := 0, agg := true, zero := [] } := by kernel_rfl
@[simp] theorem ty436 : An.ty 436 = { kd := .int .u8, size := 1, agg := false, zero := [.int .u8 0] } := by kernel_rfl
@[simp] theorem ty437 : An.ty 437 = { kd := .int .u8, size := 1, agg := false, zero := [.int .u8 0] } := by kernel_rfl
@[simp] theorem ty439 : An.ty 439 = { kd := .int .i32, size := 1, agg := false, zero := [.int .i32 0] } := by kernel_rfl
@[simp] theorem ty440 : An.ty 440 = { kd := .int .i32, size := 1, agg := false, zero := [.int .i32 0] } := by kernel_rfl
@[simp] theorem ty441 : An.ty 441 = { kd := .struct [(0, 1, false), (1, 1, false), (2, 1, false), (3, 1, false), (4, 1, false), (5, 1, false), (6, 1, false), (7, 1, false), (8, 1, false), (9, 1, false), (10, 1, false)], size := 11, agg := true, zero := [.int .u64 0, .int .u64 0, .int .u32 0, .int .u8 0, .int .u8 0, .int .u8 0, .int .u8 0, .nilfn, .nilp, .int .i32 0, .int .i32 0] } := by kernel_rfl
@[simp] theorem ty442 : An.ty 442 = { kd := .struct [(0, 1, false), (1, 1, false), (2, 1, false), (3, 1, false), (4, 1, false), (5, 1, false), (6, 1, false), (7, 1, false), (8, 1, false), (9, 1, false), (10, 1, false)], size := 11, agg := true, zero := [.int .u64 0, .int .u64 0, .int .u32 0, .int .u8 0, .int .u8 0, .int .u8 0, .int .u8 0, .nilfn, .nilp, .int .i32 0, .int .i32 0] } := by kernel_rfl
@[simp] theorem ty445 : An.ty 445 = { kd := .slice 1 1 [.int .u8 0] true, size := 1, agg := false, zero := [.nils] } := by kernel_rfl
@[simp] theorem ty446 : An.ty 446 = { kd := .ptr, size := 1, agg := false, zero := [.nilp] } := by kernel_rfl
@[simp] theorem ty447 : An.ty 447 = { kd := .iface, size := 1, agg := false, zero := [.nilif] } := by kernel_rfl
@[simp] theorem ty448 : An.ty 448 = { kd := .iface, size := 1, agg := false, zero := [.nilif] } := by kernel_rfl
@[simp] theorem ty449 : An.ty 449 = { kd := .iface, size := 1, agg := false, zero := [.nilif] } := by kernel_rfl
@[simp] theorem ty450 : An.ty 450 = { kd := .iface, size := 1, agg := false, zero := [.nilif] } := by kernel_rfl
@[simp] theorem ty455 : An.ty 455 = { kd := .struct [(0, 1, false)], size := 1, agg := true, zero := [.nilif] } := by kernel_rfl
@[simp] theorem ty456 : An.ty 456 = { kd := .struct [(0, 1, false)], size := 1, agg := true, zero := [.nilif] } := by kernel_rfl
end Go.Dn

