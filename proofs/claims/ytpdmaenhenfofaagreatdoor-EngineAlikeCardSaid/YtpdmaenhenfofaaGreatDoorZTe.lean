/- The types that the functions of this seat use, and that the program has them so. Written by te.py. -/
import Derived.Test.YtpdmaenhenfofaaGreatDoorZM4
import Derived.Test.YtpdmaenhenfofaaGreatDoorProg
import Derived.KernelRfl
set_option linter.unusedVariables false
set_option linter.unusedSimpArgs false
namespace Go.Proofs.YtpdmaenhenfofaaGreatDoor
open Go.Am
def ti2 : TI := ⟨1, 8, [.int .i64 0], .int .i64⟩
def ti3 : TI := ⟨1, 8, [.int .i64 0], .int .i64⟩
def ti4 : TI := ⟨1, 1, [.bool false], .bool⟩
def ti5 : TI := ⟨1, 1, [.int .u8 0], .int .u8⟩
def ti6 : TI := ⟨1, 1, [.int .u8 0], .int .u8⟩
def ti8 : TI := ⟨4, 24, [.int .i64 0, .int .i64 0, .bool false, .int .u8 0], .struct [(0, 2), (1, 3), (2, 4), (3, 6)]⟩
def ti9 : TI := ⟨1, 16, [.str []], .string⟩
def ti10 : TI := ⟨1, 16, [.str []], .string⟩
def ti11 : TI := ⟨1, 16, [.str []], .string⟩
def ti12 : TI := ⟨1, 8, [.int .u64 0], .int .u64⟩
def ti15 : TI := ⟨1, 8, [.nilPtr], .ptr 330⟩
def ti16 : TI := ⟨1, 8, [.nilPtr], .ptr 333⟩
def ti17 : TI := ⟨1, 8, [.nilPtr], .ptr 342⟩
def ti20 : TI := ⟨1, 16, [.nilIface], .iface⟩
def ti22 : TI := ⟨1, 24, [.slice .nil 0 []], .slice 78⟩
def ti25 : TI := ⟨1, 24, [.slice .nil 0 []], .slice 88⟩
def ti26 : TI := ⟨1, 8, [.int .i64 0], .int .i64⟩
def ti31 : TI := ⟨1, 1, [.int .i8 0], .int .i8⟩
def ti32 : TI := ⟨1, 24, [.slice .nil 0 []], .slice 45⟩
def ti34 : TI := ⟨5, 56, [.int .i64 0, .int .i64 0, .int .i64 0, .bool false, .slice .nil 0 []], .struct [(0, 3), (1, 3), (2, 3), (3, 4), (4, 32)]⟩
def ti36 : TI := ⟨1, 24, [.slice .nil 0 []], .slice 34⟩
def ti37 : TI := ⟨1, 24, [.slice .nil 0 []], .slice 76⟩
def ti38 : TI := ⟨1, 24, [.slice .nil 0 []], .slice 105⟩
def ti39 : TI := ⟨1, 24, [.slice .nil 0 []], .slice 61⟩
def ti41 : TI := ⟨5, 88, [.int .i64 0, .int .i64 0, .slice .nil 0 [], .slice .nil 0 [], .slice .nil 0 []], .struct [(0, 3), (1, 3), (2, 37), (3, 38), (4, 39)]⟩
def ti45 : TI := ⟨2, 32, [.str [], .str []], .struct [(0, 9), (1, 9)]⟩
def ti51 : TI := ⟨1, 24, [.slice .nil 0 []], .slice 54⟩
def ti54 : TI := ⟨9, 88, [.int .i64 0, .int .i64 0, .int .i64 0, .int .i64 0, .bool false, .slice .nil 0 [], .int .i64 0, .bool false, .int .i64 0], .struct [(0, 3), (1, 34), (6, 3), (7, 4), (8, 3)]⟩
def ti59 : TI := ⟨1, 24, [.slice .nil 0 []], .slice 147⟩
def ti61 : TI := ⟨4, 48, [.int .i64 0, .int .i64 0, .int .i64 0, .slice .nil 0 []], .struct [(0, 3), (1, 3), (2, 3), (3, 59)]⟩
def ti65 : TI := ⟨1, 24, [.slice .nil 0 []], .slice 173⟩
def ti67 : TI := ⟨4, 48, [.slice .nil 0 [], .int .i64 0, .int .i64 0, .bool false], .struct [(0, 65), (1, 3), (2, 3), (3, 4)]⟩
def ti76 : TI := ⟨5, 56, [.int .i64 0, .int .i64 0, .int .i64 0, .str [], .str []], .struct [(0, 3), (1, 3), (2, 3), (3, 9), (4, 9)]⟩
def ti78 : TI := ⟨18, 192, [.int .i8 0, .int .i64 0, .int .i64 0, .int .i64 0, .bool false, .slice .nil 0 [], .bool false, .int .i64 0, .int .i64 0, .int .i64 0, .int .i64 0, .int .i64 0, .str [], .str [], .int .i64 0, .int .i64 0, .int .i64 0, .slice .nil 0 []], .struct [(0, 31), (1, 34), (6, 4), (7, 3), (8, 3), (9, 76), (14, 61)]⟩
def ti82 : TI := ⟨1, 24, [.slice .nil 0 []], .slice 9⟩
def ti88 : TI := ⟨4, 48, [.int .i8 0, .str [], .str [], .int .i64 0], .struct [(0, 31), (1, 9), (2, 9), (3, 3)]⟩
def ti89 : TI := ⟨1, 8, [.nilFunc], .func⟩
def ti91 : TI := ⟨1, 16, [.nilIface], .iface⟩
def ti93 : TI := ⟨1, 16, [.nilIface], .iface⟩
def ti97 : TI := ⟨1, 8, [.nilPtr], .ptr 99⟩
def ti99 : TI := ⟨2, 24, [.str [], .int .i64 0], .struct [(0, 9), (1, 26)]⟩
def ti105 : TI := ⟨3, 40, [.int .i64 0, .int .i64 0, .slice .nil 0 []], .struct [(0, 3), (1, 3), (2, 36)]⟩
def ti118 : TI := ⟨1, 24, [.slice .nil 0 []], .slice 121⟩
def ti121 : TI := ⟨2, 32, [.int .i64 0, .slice .nil 0 []], .struct [(0, 3), (1, 22)]⟩
def ti130 : TI := ⟨1, 8, [.nilPtr], .ptr 41⟩
def ti139 : TI := ⟨1, 24, [.slice .nil 0 []], .slice 5⟩
def ti142 : TI := ⟨1, 24, [.slice .nil 0 []], .slice 3⟩
def ti147 : TI := ⟨3, 24, [.int .i64 0, .int .i64 0, .int .i64 0], .struct [(0, 3), (1, 3), (2, 3)]⟩
def ti148 : TI := ⟨1, 8, [.int .u64 0], .int .u64⟩
def ti150 : TI := ⟨2, 16, [.int .i8 0, .int .i64 0], .struct [(0, 31), (1, 3)]⟩
def ti152 : TI := ⟨2, 16, [.int .i8 0, .int .i64 0], .struct [(0, 150)]⟩
def ti153 : TI := ⟨2, 16, [.int .i8 0, .int .i64 0], .struct [(0, 150)]⟩
def ti155 : TI := ⟨1, 8, [.nilFunc], .func⟩
def ti165 : TI := ⟨1, 8, [.nilPtr], .ptr 26⟩
def ti173 : TI := ⟨3, 40, [.str [], .str [], .int .i64 0], .struct [(0, 9), (1, 9), (2, 3)]⟩
def ti184 : TI := ⟨1, 8, [.nilPtr], .ptr 187⟩
def ti185 : TI := ⟨1, 24, [.slice .nil 0 []], .slice 191⟩
def ti187 : TI := ⟨6, 112, [.int .i64 0, .int .i64 0, .slice .nil 0 [], .slice .nil 0 [], .slice .nil 0 [], .slice .nil 0 []], .struct [(0, 41), (5, 185)]⟩
def ti191 : TI := ⟨2, 32, [.int .i64 0, .slice .nil 0 []], .struct [(0, 3), (1, 36)]⟩
def ti193 : TI := ⟨1, 8, [.nilFunc], .func⟩
def ti200 : TI := ⟨1, 8, [.nilFunc], .func⟩
def ti203 : TI := ⟨1, 8, [.nilFunc], .func⟩
def ti205 : TI := ⟨1, 8, [.nilPtr], .ptr 207⟩
def ti207 : TI := ⟨2, 16, [.int .i64 0, .int .i64 0], .struct [(0, 3), (1, 26)]⟩
def ti208 : TI := ⟨1, 8, [.nilPtr], .ptr 210⟩
def ti210 : TI := ⟨2, 32, [.slice .nil 0 [], .int .i64 0], .struct [(0, 139), (1, 26)]⟩
def ti211 : TI := ⟨1, 8, [.nilFunc], .func⟩
def ti214 : TI := ⟨1, 8, [.nilPtr], .ptr 216⟩
def ti216 : TI := ⟨1, 8, [.int .i64 0], .struct [(0, 26)]⟩
def ti218 : TI := ⟨4, 4, [.int .u8 0, .int .u8 0, .int .u8 0, .int .u8 0], .array 4 5⟩
def ti221 : TI := ⟨1, 16, [.nilIface], .iface⟩
def ti236 : TI := ⟨1, 8, [.int .u64 0], .int .u64⟩
def ti241 : TI := ⟨1, 1, [.int .u8 0], .int .u8⟩
def ti250 : TI := ⟨1, 8, [.nilPtr], .ptr 295⟩
def ti261 : TI := ⟨1, 8, [.nilFunc], .func⟩
def ti262 : TI := ⟨1, 8, [.nilFunc], .func⟩
def ti264 : TI := ⟨1, 8, [.nilFunc], .func⟩
def ti266 : TI := ⟨7, 56, [.nilFunc, .nilFunc, .nilFunc, .nilFunc, .nilFunc, .nilFunc, .nilFunc], .array 7 211⟩
def ti269 : TI := ⟨1, 8, [.nilPtr], .ptr 362⟩
def ti270 : TI := ⟨1, 16, [.nilIface], .iface⟩
def ti273 : TI := ⟨1, 16, [.nilIface], .iface⟩
def ti275 : TI := ⟨1, 16, [.nilIface], .iface⟩
def ti276 : TI := ⟨1, 24, [.slice .nil 0 []], .slice 93⟩
def ti278 : TI := ⟨1, 8, [.nilPtr], .ptr 280⟩
def ti280 : TI := ⟨2, 16, [.int .i64 0, .int .i64 0], .struct [(0, 3), (1, 26)]⟩
def ti281 : TI := ⟨1, 8, [.nilFunc], .func⟩
def ti287 : TI := ⟨1, 16, [.nilIface], .iface⟩
def ti290 : TI := ⟨1, 8, [.nilPtr], .ptr 292⟩
def ti292 : TI := ⟨2, 24, [.str [], .int .i64 0], .struct [(0, 9), (1, 26)]⟩
def ti295 : TI := ⟨3, 32, [.str [], .int .i64 0, .bool false], .struct [(0, 9), (1, 3), (2, 4)]⟩
def ti304 : TI := ⟨1, 8, [.nilFunc], .func⟩
def ti308 : TI := ⟨1, 8, [.nilFunc], .func⟩
def ti310 : TI := ⟨1, 8, [.nilPtr], .ptr 312⟩
def ti312 : TI := ⟨2, 24, [.str [], .int .i64 0], .struct [(0, 9), (1, 26)]⟩
def ti316 : TI := ⟨1, 8, [.nilFunc], .func⟩
def ti323 : TI := ⟨1, 8, [.nilPtr], .ptr 325⟩
def ti325 : TI := ⟨2, 24, [.str [], .int .i64 0], .struct [(0, 9), (1, 26)]⟩
def ti327 : TI := ⟨1, 24, [.slice .nil 0 []], .slice 139⟩
def ti335 : TI := ⟨1, 4, [.int .u32 0], .int .u32⟩
def ti339 : TI := ⟨1, 4, [.int .i32 0], .int .i32⟩
def ti340 : TI := ⟨1, 4, [.int .i32 0], .int .i32⟩
def ti344 : TI := ⟨24, 24, [.int .u8 0, .int .u8 0, .int .u8 0, .int .u8 0, .int .u8 0, .int .u8 0, .int .u8 0, .int .u8 0, .int .u8 0, .int .u8 0, .int .u8 0, .int .u8 0, .int .u8 0, .int .u8 0, .int .u8 0, .int .u8 0, .int .u8 0, .int .u8 0, .int .u8 0, .int .u8 0, .int .u8 0, .int .u8 0, .int .u8 0, .int .u8 0], .array 24 5⟩
def ti345 : TI := ⟨1, 8, [.int .u64 0], .int .u64⟩
def ti351 : TI := ⟨20, 160, [.int .u64 0, .int .u64 0, .int .u64 0, .int .u64 0, .int .u64 0, .int .u64 0, .int .u64 0, .int .u64 0, .int .u64 0, .int .u64 0, .int .u64 0, .int .u64 0, .int .u64 0, .int .u64 0, .int .u64 0, .int .u64 0, .int .u64 0, .int .u64 0, .int .u64 0, .int .u64 0], .array 20 345⟩
def ti355 : TI := ⟨32, 32, [.int .u8 0, .int .u8 0, .int .u8 0, .int .u8 0, .int .u8 0, .int .u8 0, .int .u8 0, .int .u8 0, .int .u8 0, .int .u8 0, .int .u8 0, .int .u8 0, .int .u8 0, .int .u8 0, .int .u8 0, .int .u8 0, .int .u8 0, .int .u8 0, .int .u8 0, .int .u8 0, .int .u8 0, .int .u8 0, .int .u8 0, .int .u8 0, .int .u8 0, .int .u8 0, .int .u8 0, .int .u8 0, .int .u8 0, .int .u8 0, .int .u8 0, .int .u8 0], .array 32 5⟩
def ti356 : TI := ⟨64, 64, [.int .u8 0, .int .u8 0, .int .u8 0, .int .u8 0, .int .u8 0, .int .u8 0, .int .u8 0, .int .u8 0, .int .u8 0, .int .u8 0, .int .u8 0, .int .u8 0, .int .u8 0, .int .u8 0, .int .u8 0, .int .u8 0, .int .u8 0, .int .u8 0, .int .u8 0, .int .u8 0, .int .u8 0, .int .u8 0, .int .u8 0, .int .u8 0, .int .u8 0, .int .u8 0, .int .u8 0, .int .u8 0, .int .u8 0, .int .u8 0, .int .u8 0, .int .u8 0, .int .u8 0, .int .u8 0, .int .u8 0, .int .u8 0, .int .u8 0, .int .u8 0, .int .u8 0, .int .u8 0, .int .u8 0, .int .u8 0, .int .u8 0, .int .u8 0, .int .u8 0, .int .u8 0, .int .u8 0, .int .u8 0, .int .u8 0, .int .u8 0, .int .u8 0, .int .u8 0, .int .u8 0, .int .u8 0, .int .u8 0, .int .u8 0, .int .u8 0, .int .u8 0, .int .u8 0, .int .u8 0, .int .u8 0, .int .u8 0, .int .u8 0, .int .u8 0], .array 64 5⟩
def ti363 : TI := ⟨1, 8, [.nilPtr], .ptr 367⟩
def ti368 : TI := ⟨1, 24, [.slice .nil 0 []], .slice 371⟩
def ti369 : TI := ⟨1, 4, [.int .i32 0], .int .i32⟩
def ti372 : TI := ⟨1, 8, [.nilPtr], .ptr 93⟩
def te : TE := [(2, ti2), (3, ti3), (4, ti4), (5, ti5), (6, ti6), (8, ti8), (9, ti9), (10, ti10), (11, ti11), (12, ti12), (15, ti15), (16, ti16), (17, ti17), (20, ti20), (22, ti22), (25, ti25), (26, ti26), (31, ti31), (32, ti32), (34, ti34), (36, ti36), (37, ti37), (38, ti38), (39, ti39), (41, ti41), (45, ti45), (51, ti51), (54, ti54), (59, ti59), (61, ti61), (65, ti65), (67, ti67), (76, ti76), (78, ti78), (82, ti82), (88, ti88), (89, ti89), (91, ti91), (93, ti93), (97, ti97), (99, ti99), (105, ti105), (118, ti118), (121, ti121), (130, ti130), (139, ti139), (142, ti142), (147, ti147), (148, ti148), (150, ti150), (152, ti152), (153, ti153), (155, ti155), (165, ti165), (173, ti173), (184, ti184), (185, ti185), (187, ti187), (191, ti191), (193, ti193), (200, ti200), (203, ti203), (205, ti205), (207, ti207), (208, ti208), (210, ti210), (211, ti211), (214, ti214), (216, ti216), (218, ti218), (221, ti221), (236, ti236), (241, ti241), (250, ti250), (261, ti261), (262, ti262), (264, ti264), (266, ti266), (269, ti269), (270, ti270), (273, ti273), (275, ti275), (276, ti276), (278, ti278), (280, ti280), (281, ti281), (287, ti287), (290, ti290), (292, ti292), (295, ti295), (304, ti304), (308, ti308), (310, ti310), (312, ti312), (316, ti316), (323, ti323), (325, ti325), (327, ti327), (335, ti335), (339, ti339), (340, ti340), (344, ti344), (345, ti345), (351, ti351), (355, ti355), (356, ti356), (363, ti363), (368, ti368), (369, ti369), (372, ti372)]
theorem teNil : TeOk Tryz.prog [] := fun t ti h => by cases h
theorem teCons {t : Nat} {ti : TI} {r : TE} (h : TeOk1 Tryz.prog t ti) (hr : TeOk Tryz.prog r) : TeOk Tryz.prog ((t, ti) :: r) := fun u ui hu => by
  rw [look_cons] at hu
  split at hu
  · rename_i e; subst e; cases hu; exact h
  · exact hr u ui hu
theorem te2 : TeOk1 Tryz.prog 2 ti2 := ⟨by kernel_rfl, by kernel_rfl, by kernel_rfl, by kernel_rfl, fun _ => rfl, fun h => by cases h⟩
theorem te3 : TeOk1 Tryz.prog 3 ti3 := ⟨by kernel_rfl, by kernel_rfl, by kernel_rfl, by kernel_rfl, fun _ => rfl, fun h => by cases h⟩
theorem te4 : TeOk1 Tryz.prog 4 ti4 := ⟨by kernel_rfl, by kernel_rfl, by kernel_rfl, by kernel_rfl, fun _ => rfl, fun h => by cases h⟩
theorem te5 : TeOk1 Tryz.prog 5 ti5 := ⟨by kernel_rfl, by kernel_rfl, by kernel_rfl, by kernel_rfl, fun _ => rfl, fun h => by cases h⟩
theorem te6 : TeOk1 Tryz.prog 6 ti6 := ⟨by kernel_rfl, by kernel_rfl, by kernel_rfl, by kernel_rfl, fun _ => rfl, fun h => by cases h⟩
theorem te8 : TeOk1 Tryz.prog 8 ti8 := ⟨by kernel_rfl, by kernel_rfl, by kernel_rfl, by kernel_rfl, fun h => absurd h (by decide), fun _ => by kernel_rfl⟩
theorem te9 : TeOk1 Tryz.prog 9 ti9 := ⟨by kernel_rfl, by kernel_rfl, by kernel_rfl, by kernel_rfl, fun _ => rfl, fun h => by cases h⟩
theorem te10 : TeOk1 Tryz.prog 10 ti10 := ⟨by kernel_rfl, by kernel_rfl, by kernel_rfl, by kernel_rfl, fun _ => rfl, fun h => by cases h⟩
theorem te11 : TeOk1 Tryz.prog 11 ti11 := ⟨by kernel_rfl, by kernel_rfl, by kernel_rfl, by kernel_rfl, fun _ => rfl, fun h => by cases h⟩
theorem te12 : TeOk1 Tryz.prog 12 ti12 := ⟨by kernel_rfl, by kernel_rfl, by kernel_rfl, by kernel_rfl, fun _ => rfl, fun h => by cases h⟩
theorem te15 : TeOk1 Tryz.prog 15 ti15 := ⟨by kernel_rfl, by kernel_rfl, by kernel_rfl, by kernel_rfl, fun _ => rfl, fun h => by cases h⟩
theorem te16 : TeOk1 Tryz.prog 16 ti16 := ⟨by kernel_rfl, by kernel_rfl, by kernel_rfl, by kernel_rfl, fun _ => rfl, fun h => by cases h⟩
theorem te17 : TeOk1 Tryz.prog 17 ti17 := ⟨by kernel_rfl, by kernel_rfl, by kernel_rfl, by kernel_rfl, fun _ => rfl, fun h => by cases h⟩
theorem te20 : TeOk1 Tryz.prog 20 ti20 := ⟨by kernel_rfl, by kernel_rfl, by kernel_rfl, by kernel_rfl, fun _ => rfl, fun h => by cases h⟩
theorem te22 : TeOk1 Tryz.prog 22 ti22 := ⟨by kernel_rfl, by kernel_rfl, by kernel_rfl, by kernel_rfl, fun _ => rfl, fun h => by cases h⟩
theorem te25 : TeOk1 Tryz.prog 25 ti25 := ⟨by kernel_rfl, by kernel_rfl, by kernel_rfl, by kernel_rfl, fun _ => rfl, fun h => by cases h⟩
theorem te26 : TeOk1 Tryz.prog 26 ti26 := ⟨by kernel_rfl, by kernel_rfl, by kernel_rfl, by kernel_rfl, fun _ => rfl, fun h => by cases h⟩
theorem te31 : TeOk1 Tryz.prog 31 ti31 := ⟨by kernel_rfl, by kernel_rfl, by kernel_rfl, by kernel_rfl, fun _ => rfl, fun h => by cases h⟩
theorem te32 : TeOk1 Tryz.prog 32 ti32 := ⟨by kernel_rfl, by kernel_rfl, by kernel_rfl, by kernel_rfl, fun _ => rfl, fun h => by cases h⟩
theorem te34 : TeOk1 Tryz.prog 34 ti34 := ⟨by kernel_rfl, by kernel_rfl, by kernel_rfl, by kernel_rfl, fun h => absurd h (by decide), fun _ => by kernel_rfl⟩
theorem te36 : TeOk1 Tryz.prog 36 ti36 := ⟨by kernel_rfl, by kernel_rfl, by kernel_rfl, by kernel_rfl, fun _ => rfl, fun h => by cases h⟩
theorem te37 : TeOk1 Tryz.prog 37 ti37 := ⟨by kernel_rfl, by kernel_rfl, by kernel_rfl, by kernel_rfl, fun _ => rfl, fun h => by cases h⟩
theorem te38 : TeOk1 Tryz.prog 38 ti38 := ⟨by kernel_rfl, by kernel_rfl, by kernel_rfl, by kernel_rfl, fun _ => rfl, fun h => by cases h⟩
theorem te39 : TeOk1 Tryz.prog 39 ti39 := ⟨by kernel_rfl, by kernel_rfl, by kernel_rfl, by kernel_rfl, fun _ => rfl, fun h => by cases h⟩
theorem te41 : TeOk1 Tryz.prog 41 ti41 := ⟨by kernel_rfl, by kernel_rfl, by kernel_rfl, by kernel_rfl, fun h => absurd h (by decide), fun _ => by kernel_rfl⟩
theorem te45 : TeOk1 Tryz.prog 45 ti45 := ⟨by kernel_rfl, by kernel_rfl, by kernel_rfl, by kernel_rfl, fun h => absurd h (by decide), fun _ => by kernel_rfl⟩
theorem te51 : TeOk1 Tryz.prog 51 ti51 := ⟨by kernel_rfl, by kernel_rfl, by kernel_rfl, by kernel_rfl, fun _ => rfl, fun h => by cases h⟩
theorem te54 : TeOk1 Tryz.prog 54 ti54 := ⟨by kernel_rfl, by kernel_rfl, by kernel_rfl, by kernel_rfl, fun h => absurd h (by decide), fun _ => by kernel_rfl⟩
theorem te59 : TeOk1 Tryz.prog 59 ti59 := ⟨by kernel_rfl, by kernel_rfl, by kernel_rfl, by kernel_rfl, fun _ => rfl, fun h => by cases h⟩
theorem te61 : TeOk1 Tryz.prog 61 ti61 := ⟨by kernel_rfl, by kernel_rfl, by kernel_rfl, by kernel_rfl, fun h => absurd h (by decide), fun _ => by kernel_rfl⟩
theorem te65 : TeOk1 Tryz.prog 65 ti65 := ⟨by kernel_rfl, by kernel_rfl, by kernel_rfl, by kernel_rfl, fun _ => rfl, fun h => by cases h⟩
theorem te67 : TeOk1 Tryz.prog 67 ti67 := ⟨by kernel_rfl, by kernel_rfl, by kernel_rfl, by kernel_rfl, fun h => absurd h (by decide), fun _ => by kernel_rfl⟩
theorem te76 : TeOk1 Tryz.prog 76 ti76 := ⟨by kernel_rfl, by kernel_rfl, by kernel_rfl, by kernel_rfl, fun h => absurd h (by decide), fun _ => by kernel_rfl⟩
theorem te78 : TeOk1 Tryz.prog 78 ti78 := ⟨by kernel_rfl, by kernel_rfl, by kernel_rfl, by kernel_rfl, fun h => absurd h (by decide), fun _ => by kernel_rfl⟩
theorem te82 : TeOk1 Tryz.prog 82 ti82 := ⟨by kernel_rfl, by kernel_rfl, by kernel_rfl, by kernel_rfl, fun _ => rfl, fun h => by cases h⟩
theorem te88 : TeOk1 Tryz.prog 88 ti88 := ⟨by kernel_rfl, by kernel_rfl, by kernel_rfl, by kernel_rfl, fun h => absurd h (by decide), fun _ => by kernel_rfl⟩
theorem te89 : TeOk1 Tryz.prog 89 ti89 := ⟨by kernel_rfl, by kernel_rfl, by kernel_rfl, by kernel_rfl, fun _ => rfl, fun h => by cases h⟩
theorem te91 : TeOk1 Tryz.prog 91 ti91 := ⟨by kernel_rfl, by kernel_rfl, by kernel_rfl, by kernel_rfl, fun _ => rfl, fun h => by cases h⟩
theorem te93 : TeOk1 Tryz.prog 93 ti93 := ⟨by kernel_rfl, by kernel_rfl, by kernel_rfl, by kernel_rfl, fun _ => rfl, fun h => by cases h⟩
theorem te97 : TeOk1 Tryz.prog 97 ti97 := ⟨by kernel_rfl, by kernel_rfl, by kernel_rfl, by kernel_rfl, fun _ => rfl, fun h => by cases h⟩
theorem te99 : TeOk1 Tryz.prog 99 ti99 := ⟨by kernel_rfl, by kernel_rfl, by kernel_rfl, by kernel_rfl, fun h => absurd h (by decide), fun _ => by kernel_rfl⟩
theorem te105 : TeOk1 Tryz.prog 105 ti105 := ⟨by kernel_rfl, by kernel_rfl, by kernel_rfl, by kernel_rfl, fun h => absurd h (by decide), fun _ => by kernel_rfl⟩
theorem te118 : TeOk1 Tryz.prog 118 ti118 := ⟨by kernel_rfl, by kernel_rfl, by kernel_rfl, by kernel_rfl, fun _ => rfl, fun h => by cases h⟩
theorem te121 : TeOk1 Tryz.prog 121 ti121 := ⟨by kernel_rfl, by kernel_rfl, by kernel_rfl, by kernel_rfl, fun h => absurd h (by decide), fun _ => by kernel_rfl⟩
theorem te130 : TeOk1 Tryz.prog 130 ti130 := ⟨by kernel_rfl, by kernel_rfl, by kernel_rfl, by kernel_rfl, fun _ => rfl, fun h => by cases h⟩
theorem te139 : TeOk1 Tryz.prog 139 ti139 := ⟨by kernel_rfl, by kernel_rfl, by kernel_rfl, by kernel_rfl, fun _ => rfl, fun h => by cases h⟩
theorem te142 : TeOk1 Tryz.prog 142 ti142 := ⟨by kernel_rfl, by kernel_rfl, by kernel_rfl, by kernel_rfl, fun _ => rfl, fun h => by cases h⟩
theorem te147 : TeOk1 Tryz.prog 147 ti147 := ⟨by kernel_rfl, by kernel_rfl, by kernel_rfl, by kernel_rfl, fun h => absurd h (by decide), fun _ => by kernel_rfl⟩
theorem te148 : TeOk1 Tryz.prog 148 ti148 := ⟨by kernel_rfl, by kernel_rfl, by kernel_rfl, by kernel_rfl, fun _ => rfl, fun h => by cases h⟩
theorem te150 : TeOk1 Tryz.prog 150 ti150 := ⟨by kernel_rfl, by kernel_rfl, by kernel_rfl, by kernel_rfl, fun h => absurd h (by decide), fun _ => by kernel_rfl⟩
theorem te152 : TeOk1 Tryz.prog 152 ti152 := ⟨by kernel_rfl, by kernel_rfl, by kernel_rfl, by kernel_rfl, fun h => absurd h (by decide), fun _ => by kernel_rfl⟩
theorem te153 : TeOk1 Tryz.prog 153 ti153 := ⟨by kernel_rfl, by kernel_rfl, by kernel_rfl, by kernel_rfl, fun h => absurd h (by decide), fun _ => by kernel_rfl⟩
theorem te155 : TeOk1 Tryz.prog 155 ti155 := ⟨by kernel_rfl, by kernel_rfl, by kernel_rfl, by kernel_rfl, fun _ => rfl, fun h => by cases h⟩
theorem te165 : TeOk1 Tryz.prog 165 ti165 := ⟨by kernel_rfl, by kernel_rfl, by kernel_rfl, by kernel_rfl, fun _ => rfl, fun h => by cases h⟩
theorem te173 : TeOk1 Tryz.prog 173 ti173 := ⟨by kernel_rfl, by kernel_rfl, by kernel_rfl, by kernel_rfl, fun h => absurd h (by decide), fun _ => by kernel_rfl⟩
theorem te184 : TeOk1 Tryz.prog 184 ti184 := ⟨by kernel_rfl, by kernel_rfl, by kernel_rfl, by kernel_rfl, fun _ => rfl, fun h => by cases h⟩
theorem te185 : TeOk1 Tryz.prog 185 ti185 := ⟨by kernel_rfl, by kernel_rfl, by kernel_rfl, by kernel_rfl, fun _ => rfl, fun h => by cases h⟩
theorem te187 : TeOk1 Tryz.prog 187 ti187 := ⟨by kernel_rfl, by kernel_rfl, by kernel_rfl, by kernel_rfl, fun h => absurd h (by decide), fun _ => by kernel_rfl⟩
theorem te191 : TeOk1 Tryz.prog 191 ti191 := ⟨by kernel_rfl, by kernel_rfl, by kernel_rfl, by kernel_rfl, fun h => absurd h (by decide), fun _ => by kernel_rfl⟩
theorem te193 : TeOk1 Tryz.prog 193 ti193 := ⟨by kernel_rfl, by kernel_rfl, by kernel_rfl, by kernel_rfl, fun _ => rfl, fun h => by cases h⟩
theorem te200 : TeOk1 Tryz.prog 200 ti200 := ⟨by kernel_rfl, by kernel_rfl, by kernel_rfl, by kernel_rfl, fun _ => rfl, fun h => by cases h⟩
theorem te203 : TeOk1 Tryz.prog 203 ti203 := ⟨by kernel_rfl, by kernel_rfl, by kernel_rfl, by kernel_rfl, fun _ => rfl, fun h => by cases h⟩
theorem te205 : TeOk1 Tryz.prog 205 ti205 := ⟨by kernel_rfl, by kernel_rfl, by kernel_rfl, by kernel_rfl, fun _ => rfl, fun h => by cases h⟩
theorem te207 : TeOk1 Tryz.prog 207 ti207 := ⟨by kernel_rfl, by kernel_rfl, by kernel_rfl, by kernel_rfl, fun h => absurd h (by decide), fun _ => by kernel_rfl⟩
theorem te208 : TeOk1 Tryz.prog 208 ti208 := ⟨by kernel_rfl, by kernel_rfl, by kernel_rfl, by kernel_rfl, fun _ => rfl, fun h => by cases h⟩
theorem te210 : TeOk1 Tryz.prog 210 ti210 := ⟨by kernel_rfl, by kernel_rfl, by kernel_rfl, by kernel_rfl, fun h => absurd h (by decide), fun _ => by kernel_rfl⟩
theorem te211 : TeOk1 Tryz.prog 211 ti211 := ⟨by kernel_rfl, by kernel_rfl, by kernel_rfl, by kernel_rfl, fun _ => rfl, fun h => by cases h⟩
theorem te214 : TeOk1 Tryz.prog 214 ti214 := ⟨by kernel_rfl, by kernel_rfl, by kernel_rfl, by kernel_rfl, fun _ => rfl, fun h => by cases h⟩
theorem te216 : TeOk1 Tryz.prog 216 ti216 := ⟨by kernel_rfl, by kernel_rfl, by kernel_rfl, by kernel_rfl, fun h => absurd h (by decide), fun _ => by kernel_rfl⟩
theorem te218 : TeOk1 Tryz.prog 218 ti218 := ⟨by kernel_rfl, by kernel_rfl, by kernel_rfl, by kernel_rfl, fun h => absurd h (by decide), fun h => by cases h⟩
theorem te221 : TeOk1 Tryz.prog 221 ti221 := ⟨by kernel_rfl, by kernel_rfl, by kernel_rfl, by kernel_rfl, fun _ => rfl, fun h => by cases h⟩
theorem te236 : TeOk1 Tryz.prog 236 ti236 := ⟨by kernel_rfl, by kernel_rfl, by kernel_rfl, by kernel_rfl, fun _ => rfl, fun h => by cases h⟩
theorem te241 : TeOk1 Tryz.prog 241 ti241 := ⟨by kernel_rfl, by kernel_rfl, by kernel_rfl, by kernel_rfl, fun _ => rfl, fun h => by cases h⟩
theorem te250 : TeOk1 Tryz.prog 250 ti250 := ⟨by kernel_rfl, by kernel_rfl, by kernel_rfl, by kernel_rfl, fun _ => rfl, fun h => by cases h⟩
theorem te261 : TeOk1 Tryz.prog 261 ti261 := ⟨by kernel_rfl, by kernel_rfl, by kernel_rfl, by kernel_rfl, fun _ => rfl, fun h => by cases h⟩
theorem te262 : TeOk1 Tryz.prog 262 ti262 := ⟨by kernel_rfl, by kernel_rfl, by kernel_rfl, by kernel_rfl, fun _ => rfl, fun h => by cases h⟩
theorem te264 : TeOk1 Tryz.prog 264 ti264 := ⟨by kernel_rfl, by kernel_rfl, by kernel_rfl, by kernel_rfl, fun _ => rfl, fun h => by cases h⟩
theorem te266 : TeOk1 Tryz.prog 266 ti266 := ⟨by kernel_rfl, by kernel_rfl, by kernel_rfl, by kernel_rfl, fun h => absurd h (by decide), fun h => by cases h⟩
theorem te269 : TeOk1 Tryz.prog 269 ti269 := ⟨by kernel_rfl, by kernel_rfl, by kernel_rfl, by kernel_rfl, fun _ => rfl, fun h => by cases h⟩
theorem te270 : TeOk1 Tryz.prog 270 ti270 := ⟨by kernel_rfl, by kernel_rfl, by kernel_rfl, by kernel_rfl, fun _ => rfl, fun h => by cases h⟩
theorem te273 : TeOk1 Tryz.prog 273 ti273 := ⟨by kernel_rfl, by kernel_rfl, by kernel_rfl, by kernel_rfl, fun _ => rfl, fun h => by cases h⟩
theorem te275 : TeOk1 Tryz.prog 275 ti275 := ⟨by kernel_rfl, by kernel_rfl, by kernel_rfl, by kernel_rfl, fun _ => rfl, fun h => by cases h⟩
theorem te276 : TeOk1 Tryz.prog 276 ti276 := ⟨by kernel_rfl, by kernel_rfl, by kernel_rfl, by kernel_rfl, fun _ => rfl, fun h => by cases h⟩
theorem te278 : TeOk1 Tryz.prog 278 ti278 := ⟨by kernel_rfl, by kernel_rfl, by kernel_rfl, by kernel_rfl, fun _ => rfl, fun h => by cases h⟩
theorem te280 : TeOk1 Tryz.prog 280 ti280 := ⟨by kernel_rfl, by kernel_rfl, by kernel_rfl, by kernel_rfl, fun h => absurd h (by decide), fun _ => by kernel_rfl⟩
theorem te281 : TeOk1 Tryz.prog 281 ti281 := ⟨by kernel_rfl, by kernel_rfl, by kernel_rfl, by kernel_rfl, fun _ => rfl, fun h => by cases h⟩
theorem te287 : TeOk1 Tryz.prog 287 ti287 := ⟨by kernel_rfl, by kernel_rfl, by kernel_rfl, by kernel_rfl, fun _ => rfl, fun h => by cases h⟩
theorem te290 : TeOk1 Tryz.prog 290 ti290 := ⟨by kernel_rfl, by kernel_rfl, by kernel_rfl, by kernel_rfl, fun _ => rfl, fun h => by cases h⟩
theorem te292 : TeOk1 Tryz.prog 292 ti292 := ⟨by kernel_rfl, by kernel_rfl, by kernel_rfl, by kernel_rfl, fun h => absurd h (by decide), fun _ => by kernel_rfl⟩
theorem te295 : TeOk1 Tryz.prog 295 ti295 := ⟨by kernel_rfl, by kernel_rfl, by kernel_rfl, by kernel_rfl, fun h => absurd h (by decide), fun _ => by kernel_rfl⟩
theorem te304 : TeOk1 Tryz.prog 304 ti304 := ⟨by kernel_rfl, by kernel_rfl, by kernel_rfl, by kernel_rfl, fun _ => rfl, fun h => by cases h⟩
theorem te308 : TeOk1 Tryz.prog 308 ti308 := ⟨by kernel_rfl, by kernel_rfl, by kernel_rfl, by kernel_rfl, fun _ => rfl, fun h => by cases h⟩
theorem te310 : TeOk1 Tryz.prog 310 ti310 := ⟨by kernel_rfl, by kernel_rfl, by kernel_rfl, by kernel_rfl, fun _ => rfl, fun h => by cases h⟩
theorem te312 : TeOk1 Tryz.prog 312 ti312 := ⟨by kernel_rfl, by kernel_rfl, by kernel_rfl, by kernel_rfl, fun h => absurd h (by decide), fun _ => by kernel_rfl⟩
theorem te316 : TeOk1 Tryz.prog 316 ti316 := ⟨by kernel_rfl, by kernel_rfl, by kernel_rfl, by kernel_rfl, fun _ => rfl, fun h => by cases h⟩
theorem te323 : TeOk1 Tryz.prog 323 ti323 := ⟨by kernel_rfl, by kernel_rfl, by kernel_rfl, by kernel_rfl, fun _ => rfl, fun h => by cases h⟩
theorem te325 : TeOk1 Tryz.prog 325 ti325 := ⟨by kernel_rfl, by kernel_rfl, by kernel_rfl, by kernel_rfl, fun h => absurd h (by decide), fun _ => by kernel_rfl⟩
theorem te327 : TeOk1 Tryz.prog 327 ti327 := ⟨by kernel_rfl, by kernel_rfl, by kernel_rfl, by kernel_rfl, fun _ => rfl, fun h => by cases h⟩
theorem te335 : TeOk1 Tryz.prog 335 ti335 := ⟨by kernel_rfl, by kernel_rfl, by kernel_rfl, by kernel_rfl, fun _ => rfl, fun h => by cases h⟩
theorem te339 : TeOk1 Tryz.prog 339 ti339 := ⟨by kernel_rfl, by kernel_rfl, by kernel_rfl, by kernel_rfl, fun _ => rfl, fun h => by cases h⟩
theorem te340 : TeOk1 Tryz.prog 340 ti340 := ⟨by kernel_rfl, by kernel_rfl, by kernel_rfl, by kernel_rfl, fun _ => rfl, fun h => by cases h⟩
theorem te344 : TeOk1 Tryz.prog 344 ti344 := ⟨by kernel_rfl, by kernel_rfl, by kernel_rfl, by kernel_rfl, fun h => absurd h (by decide), fun h => by cases h⟩
theorem te345 : TeOk1 Tryz.prog 345 ti345 := ⟨by kernel_rfl, by kernel_rfl, by kernel_rfl, by kernel_rfl, fun _ => rfl, fun h => by cases h⟩
theorem te351 : TeOk1 Tryz.prog 351 ti351 := ⟨by kernel_rfl, by kernel_rfl, by kernel_rfl, by kernel_rfl, fun h => absurd h (by decide), fun h => by cases h⟩
theorem te355 : TeOk1 Tryz.prog 355 ti355 := ⟨by kernel_rfl, by kernel_rfl, by kernel_rfl, by kernel_rfl, fun h => absurd h (by decide), fun h => by cases h⟩
theorem te356 : TeOk1 Tryz.prog 356 ti356 := ⟨by kernel_rfl, by kernel_rfl, by kernel_rfl, by kernel_rfl, fun h => absurd h (by decide), fun h => by cases h⟩
theorem te363 : TeOk1 Tryz.prog 363 ti363 := ⟨by kernel_rfl, by kernel_rfl, by kernel_rfl, by kernel_rfl, fun _ => rfl, fun h => by cases h⟩
theorem te368 : TeOk1 Tryz.prog 368 ti368 := ⟨by kernel_rfl, by kernel_rfl, by kernel_rfl, by kernel_rfl, fun _ => rfl, fun h => by cases h⟩
theorem te369 : TeOk1 Tryz.prog 369 ti369 := ⟨by kernel_rfl, by kernel_rfl, by kernel_rfl, by kernel_rfl, fun _ => rfl, fun h => by cases h⟩
theorem te372 : TeOk1 Tryz.prog 372 ti372 := ⟨by kernel_rfl, by kernel_rfl, by kernel_rfl, by kernel_rfl, fun _ => rfl, fun h => by cases h⟩
theorem teOk : TeOk Tryz.prog te :=
  (teCons te2 (teCons te3 (teCons te4 (teCons te5 (teCons te6 (teCons te8 (teCons te9 (teCons te10 (teCons te11 (teCons te12 (teCons te15 (teCons te16 (teCons te17 (teCons te20 (teCons te22 (teCons te25 (teCons te26 (teCons te31 (teCons te32 (teCons te34 (teCons te36 (teCons te37 (teCons te38 (teCons te39 (teCons te41 (teCons te45 (teCons te51 (teCons te54 (teCons te59 (teCons te61 (teCons te65 (teCons te67 (teCons te76 (teCons te78 (teCons te82 (teCons te88 (teCons te89 (teCons te91 (teCons te93 (teCons te97 (teCons te99 (teCons te105 (teCons te118 (teCons te121 (teCons te130 (teCons te139 (teCons te142 (teCons te147 (teCons te148 (teCons te150 (teCons te152 (teCons te153 (teCons te155 (teCons te165 (teCons te173 (teCons te184 (teCons te185 (teCons te187 (teCons te191 (teCons te193 (teCons te200 (teCons te203 (teCons te205 (teCons te207 (teCons te208 (teCons te210 (teCons te211 (teCons te214 (teCons te216 (teCons te218 (teCons te221 (teCons te236 (teCons te241 (teCons te250 (teCons te261 (teCons te262 (teCons te264 (teCons te266 (teCons te269 (teCons te270 (teCons te273 (teCons te275 (teCons te276 (teCons te278 (teCons te280 (teCons te281 (teCons te287 (teCons te290 (teCons te292 (teCons te295 (teCons te304 (teCons te308 (teCons te310 (teCons te312 (teCons te316 (teCons te323 (teCons te325 (teCons te327 (teCons te335 (teCons te339 (teCons te340 (teCons te344 (teCons te345 (teCons te351 (teCons te355 (teCons te356 (teCons te363 (teCons te368 (teCons te369 (teCons te372 teNil))))))))))))))))))))))))))))))))))))))))))))))))))))))))))))))))))))))))))))))))))))))))))))))))))))))))))))))
end Go.Proofs.YtpdmaenhenfofaaGreatDoor
