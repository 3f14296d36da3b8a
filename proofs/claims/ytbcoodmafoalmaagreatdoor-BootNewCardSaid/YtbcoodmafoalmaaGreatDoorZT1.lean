/- Contracts and laws, joined: Te, Cf. No condition beside those that each theorem names. -/
import Derived.Test.YtbcoodmafoalmaaGreatDoorZM4
import Derived.Test.YtbcoodmafoalmaaGreatDoorProg
import Derived.KernelRfl
set_option linter.unusedVariables false
set_option linter.unusedSimpArgs false
namespace Go.Proofs.YtbcoodmafoalmaaGreatDoor
open Go.Am
def ti2 : TI := ⟨1, 8, [.int .i64 0], .int .i64⟩
def ti3 : TI := ⟨1, 8, [.int .i64 0], .int .i64⟩
def ti4 : TI := ⟨1, 1, [.bool false], .bool⟩
def ti5 : TI := ⟨1, 1, [.int .u8 0], .int .u8⟩
def ti6 : TI := ⟨1, 1, [.int .u8 0], .int .u8⟩
def ti8 : TI := ⟨4, 24, [.int .i64 0, .int .i64 0, .bool false, .int .u8 0], .struct [(0, 2), (1, 3), (2, 4), (3, 6)]⟩
def ti9 : TI := ⟨1, 16, [.str []], .string⟩
def ti10 : TI := ⟨1, 16, [.str []], .string⟩
def ti11 : TI := ⟨1, 16, [.str []], .string⟩
def ti12 : TI := ⟨1, 8, [.int .u64 0], .int .u64⟩
def ti15 : TI := ⟨1, 8, [.nilPtr], .ptr 523⟩
def ti16 : TI := ⟨1, 8, [.nilPtr], .ptr 526⟩
def ti17 : TI := ⟨1, 8, [.nilPtr], .ptr 534⟩
def ti20 : TI := ⟨1, 16, [.nilIface], .iface⟩
def ti22 : TI := ⟨1, 1, [.int .i8 0], .int .i8⟩
def ti23 : TI := ⟨1, 24, [.slice .nil 0 []], .slice 65⟩
def ti25 : TI := ⟨4, 48, [.slice .nil 0 [], .int .i64 0, .int .i64 0, .bool false], .struct [(0, 23), (1, 3), (2, 3), (3, 4)]⟩
def ti27 : TI := ⟨1, 16, [.nilIface], .iface⟩
def ti30 : TI := ⟨1, 8, [.int .i64 0], .int .i64⟩
def ti41 : TI := ⟨4, 48, [.int .i8 0, .str [], .str [], .int .i64 0], .struct [(0, 22), (1, 9), (2, 9), (3, 3)]⟩
def ti42 : TI := ⟨1, 24, [.slice .nil 0 []], .slice 41⟩
def ti44 : TI := ⟨1, 24, [.slice .nil 0 []], .slice 193⟩
def ti45 : TI := ⟨1, 24, [.slice .nil 0 []], .slice 141⟩
def ti46 : TI := ⟨1, 24, [.slice .nil 0 []], .slice 196⟩
def ti48 : TI := ⟨5, 88, [.int .i64 0, .int .i64 0, .slice .nil 0 [], .slice .nil 0 [], .slice .nil 0 []], .struct [(0, 3), (1, 3), (2, 44), (3, 45), (4, 46)]⟩
def ti49 : TI := ⟨15, 264, [.int .i64 0, .int .i64 0, .slice .nil 0 [], .slice .nil 0 [], .slice .nil 0 [], .int .i64 0, .int .i64 0, .slice .nil 0 [], .slice .nil 0 [], .slice .nil 0 [], .int .i64 0, .int .i64 0, .slice .nil 0 [], .slice .nil 0 [], .slice .nil 0 []], .array 3 48⟩
def ti50 : TI := ⟨1, 24, [.slice .nil 0 []], .slice 3⟩
def ti51 : TI := ⟨1, 24, [.slice .nil 0 []], .slice 150⟩
def ti53 : TI := ⟨8, 96, [.int .i8 0, .int .i64 0, .int .i64 0, .int .i64 0, .int .i64 0, .slice .nil 0 [], .slice .nil 0 [], .int .i64 0], .struct [(0, 22), (1, 3), (2, 3), (3, 3), (4, 3), (5, 50), (6, 51), (7, 3)]⟩
def ti54 : TI := ⟨24, 288, [.int .i8 0, .int .i64 0, .int .i64 0, .int .i64 0, .int .i64 0, .slice .nil 0 [], .slice .nil 0 [], .int .i64 0, .int .i8 0, .int .i64 0, .int .i64 0, .int .i64 0, .int .i64 0, .slice .nil 0 [], .slice .nil 0 [], .int .i64 0, .int .i8 0, .int .i64 0, .int .i64 0, .int .i64 0, .int .i64 0, .slice .nil 0 [], .slice .nil 0 [], .int .i64 0], .array 3 53⟩
def ti55 : TI := ⟨3, 24, [.int .i64 0, .int .i64 0, .int .i64 0], .array 3 3⟩
def ti56 : TI := ⟨6, 48, [.int .i64 0, .int .i64 0, .int .i64 0, .int .i64 0, .int .i64 0, .int .i64 0], .array 2 55⟩
def ti58 : TI := ⟨31, 344, [.int .i64 0, .int .i8 0, .int .i64 0, .int .i64 0, .int .i64 0, .int .i64 0, .slice .nil 0 [], .slice .nil 0 [], .int .i64 0, .int .i8 0, .int .i64 0, .int .i64 0, .int .i64 0, .int .i64 0, .slice .nil 0 [], .slice .nil 0 [], .int .i64 0, .int .i8 0, .int .i64 0, .int .i64 0, .int .i64 0, .int .i64 0, .slice .nil 0 [], .slice .nil 0 [], .int .i64 0, .int .i64 0, .int .i64 0, .int .i64 0, .int .i64 0, .int .i64 0, .int .i64 0], .struct [(0, 3), (1, 54), (25, 56)]⟩
def ti60 : TI := ⟨47, 616, [.int .i8 0, .int .i64 0, .int .i64 0, .slice .nil 0 [], .slice .nil 0 [], .slice .nil 0 [], .int .i64 0, .int .i64 0, .slice .nil 0 [], .slice .nil 0 [], .slice .nil 0 [], .int .i64 0, .int .i64 0, .slice .nil 0 [], .slice .nil 0 [], .slice .nil 0 [], .int .i64 0, .int .i8 0, .int .i64 0, .int .i64 0, .int .i64 0, .int .i64 0, .slice .nil 0 [], .slice .nil 0 [], .int .i64 0, .int .i8 0, .int .i64 0, .int .i64 0, .int .i64 0, .int .i64 0, .slice .nil 0 [], .slice .nil 0 [], .int .i64 0, .int .i8 0, .int .i64 0, .int .i64 0, .int .i64 0, .int .i64 0, .slice .nil 0 [], .slice .nil 0 [], .int .i64 0, .int .i64 0, .int .i64 0, .int .i64 0, .int .i64 0, .int .i64 0, .int .i64 0], .struct [(0, 22), (1, 49), (16, 58)]⟩
def ti65 : TI := ⟨3, 40, [.str [], .str [], .int .i64 0], .struct [(0, 9), (1, 9), (2, 3)]⟩
def ti68 : TI := ⟨1, 8, [.nilPtr], .ptr 70⟩
def ti70 : TI := ⟨3, 32, [.int .i8 0, .str [], .int .i64 0], .struct [(0, 22), (1, 9), (2, 30)]⟩
def ti79 : TI := ⟨1, 8, [.nilPtr], .ptr 3⟩
def ti80 : TI := ⟨1, 8, [.nilPtr], .ptr 30⟩
def ti81 : TI := ⟨1, 8, [.nilPtr], .ptr 84⟩
def ti84 : TI := ⟨52, 672, [.slice .nil 0 [], .int .i64 0, .int .i64 0, .bool false, .int .i8 0, .int .i8 0, .int .i64 0, .int .i64 0, .slice .nil 0 [], .slice .nil 0 [], .slice .nil 0 [], .int .i64 0, .int .i64 0, .slice .nil 0 [], .slice .nil 0 [], .slice .nil 0 [], .int .i64 0, .int .i64 0, .slice .nil 0 [], .slice .nil 0 [], .slice .nil 0 [], .int .i64 0, .int .i8 0, .int .i64 0, .int .i64 0, .int .i64 0, .int .i64 0, .slice .nil 0 [], .slice .nil 0 [], .int .i64 0, .int .i8 0, .int .i64 0, .int .i64 0, .int .i64 0, .int .i64 0, .slice .nil 0 [], .slice .nil 0 [], .int .i64 0, .int .i8 0, .int .i64 0, .int .i64 0, .int .i64 0, .int .i64 0, .slice .nil 0 [], .slice .nil 0 [], .int .i64 0, .int .i64 0, .int .i64 0, .int .i64 0, .int .i64 0, .int .i64 0, .int .i64 0], .struct [(0, 25), (4, 22), (5, 60)]⟩
def ti86 : TI := ⟨1, 8, [.nilFunc], .func⟩
def ti87 : TI := ⟨1, 24, [.slice .nil 0 []], .slice 86⟩
def ti95 : TI := ⟨1, 8, [.nilFunc], .func⟩
def ti100 : TI := ⟨1, 16, [.nilIface], .iface⟩
def ti105 : TI := ⟨1, 8, [.int .u64 0], .int .u64⟩
def ti110 : TI := ⟨1, 1, [.int .u8 0], .int .u8⟩
def ti115 : TI := ⟨2, 24, [.nilIface, .nilPtr], .struct [(0, 27), (1, 79)]⟩
def ti116 : TI := ⟨1, 16, [.nilIface], .iface⟩
def ti118 : TI := ⟨3, 32, [.nilIface, .nilPtr, .nilFunc], .struct [(0, 115), (2, 86)]⟩
def ti119 : TI := ⟨1, 16, [.nilIface], .iface⟩
def ti120 : TI := ⟨1, 8, [.nilFunc], .func⟩
def ti122 : TI := ⟨3, 32, [.nilIface, .nilPtr, .nilFunc], .struct [(0, 115), (2, 120)]⟩
def ti123 : TI := ⟨1, 8, [.nilPtr], .ptr 125⟩
def ti125 : TI := ⟨2, 24, [.str [], .int .i64 0], .struct [(0, 9), (1, 30)]⟩
def ti129 : TI := ⟨1, 24, [.slice .nil 0 []], .slice 9⟩
def ti132 : TI := ⟨1, 24, [.slice .nil 0 []], .slice 198⟩
def ti137 : TI := ⟨1, 8, [.nilFunc], .func⟩
def ti139 : TI := ⟨1, 24, [.slice .nil 0 []], .slice 191⟩
def ti141 : TI := ⟨3, 40, [.int .i64 0, .int .i64 0, .slice .nil 0 []], .struct [(0, 3), (1, 3), (2, 139)]⟩
def ti150 : TI := ⟨3, 24, [.int .i64 0, .int .i64 0, .int .i64 0], .struct [(0, 3), (1, 3), (2, 3)]⟩
def ti152 : TI := ⟨17, 168, [.int .i8 0, .int .i64 0, .int .i64 0, .int .i64 0, .int .i64 0, .int .i64 0, .bool false, .int .i64 0, .int .i8 0, .int .i64 0, .int .i64 0, .int .i64 0, .int .i64 0, .slice .nil 0 [], .slice .nil 0 [], .int .i64 0, .int .i64 0], .struct [(0, 22), (1, 3), (2, 3), (3, 150), (6, 4), (7, 3), (8, 53), (16, 3)]⟩
def ti157 : TI := ⟨1, 24, [.slice .nil 0 []], .slice 152⟩
def ti159 : TI := ⟨2, 2, [.int .i8 0, .int .i8 0], .array 2 22⟩
def ti160 : TI := ⟨1, 8, [.nilPtr], .ptr 162⟩
def ti162 : TI := ⟨2, 24, [.str [], .int .i64 0], .struct [(0, 9), (1, 30)]⟩
def ti163 : TI := ⟨1, 24, [.slice .nil 0 []], .slice 23⟩
def ti167 : TI := ⟨1, 8, [.nilPtr], .ptr 540⟩
def ti168 : TI := ⟨1, 16, [.nilIface], .iface⟩
def ti171 : TI := ⟨1, 24, [.slice .nil 0 []], .slice 27⟩
def ti174 : TI := ⟨1, 16, [.nilIface], .iface⟩
def ti178 : TI := ⟨1, 8, [.nilFunc], .func⟩
def ti180 : TI := ⟨1, 8, [.nilFunc], .func⟩
def ti183 : TI := ⟨4, 24, [.int .i8 0, .int .i8 0, .int .i64 0, .int .i64 0], .struct [(0, 22), (1, 22), (2, 3), (3, 3)]⟩
def ti188 : TI := ⟨1, 8, [.nilFunc], .func⟩
def ti189 : TI := ⟨1, 24, [.slice .nil 0 []], .slice 310⟩
def ti191 : TI := ⟨5, 56, [.int .i64 0, .int .i64 0, .int .i64 0, .bool false, .slice .nil 0 []], .struct [(0, 3), (1, 3), (2, 3), (3, 4), (4, 189)]⟩
def ti193 : TI := ⟨5, 56, [.int .i64 0, .int .i64 0, .int .i64 0, .str [], .str []], .struct [(0, 3), (1, 3), (2, 3), (3, 9), (4, 9)]⟩
def ti194 : TI := ⟨1, 24, [.slice .nil 0 []], .slice 343⟩
def ti196 : TI := ⟨4, 48, [.int .i64 0, .int .i64 0, .int .i64 0, .slice .nil 0 []], .struct [(0, 3), (1, 3), (2, 3), (3, 194)]⟩
def ti198 : TI := ⟨18, 192, [.int .i8 0, .int .i64 0, .int .i64 0, .int .i64 0, .bool false, .slice .nil 0 [], .bool false, .int .i64 0, .int .i64 0, .int .i64 0, .int .i64 0, .int .i64 0, .str [], .str [], .int .i64 0, .int .i64 0, .int .i64 0, .slice .nil 0 []], .struct [(0, 22), (1, 191), (6, 4), (7, 3), (8, 3), (9, 193), (14, 196)]⟩
def ti210 : TI := ⟨1, 8, [.nilPtr], .ptr 58⟩
def ti211 : TI := ⟨1, 8, [.nilPtr], .ptr 213⟩
def ti213 : TI := ⟨2, 24, [.str [], .int .i64 0], .struct [(0, 9), (1, 30)]⟩
def ti219 : TI := ⟨1, 8, [.nilFunc], .func⟩
def ti221 : TI := ⟨31, 344, [.int .i64 0, .int .i8 0, .int .i64 0, .int .i64 0, .int .i64 0, .int .i64 0, .slice .nil 0 [], .slice .nil 0 [], .int .i64 0, .int .i8 0, .int .i64 0, .int .i64 0, .int .i64 0, .int .i64 0, .slice .nil 0 [], .slice .nil 0 [], .int .i64 0, .int .i8 0, .int .i64 0, .int .i64 0, .int .i64 0, .int .i64 0, .slice .nil 0 [], .slice .nil 0 [], .int .i64 0, .int .i64 0, .int .i64 0, .int .i64 0, .int .i64 0, .int .i64 0, .int .i64 0], .struct [(0, 58)]⟩
def ti222 : TI := ⟨1, 8, [.nilFunc], .func⟩
def ti226 : TI := ⟨1, 8, [.nilFunc], .func⟩
def ti227 : TI := ⟨1, 8, [.nilPtr], .ptr 229⟩
def ti229 : TI := ⟨2, 24, [.str [], .int .i64 0], .struct [(0, 9), (1, 30)]⟩
def ti232 : TI := ⟨1, 8, [.nilFunc], .func⟩
def ti234 : TI := ⟨1, 8, [.nilFunc], .func⟩
def ti238 : TI := ⟨1, 24, [.slice .nil 0 []], .slice 240⟩
def ti240 : TI := ⟨2, 32, [.int .i64 0, .slice .nil 0 []], .struct [(0, 3), (1, 132)]⟩
def ti251 : TI := ⟨1, 16, [.nilIface], .iface⟩
def ti260 : TI := ⟨1, 8, [.nilPtr], .ptr 48⟩
def ti266 : TI := ⟨1, 24, [.slice .nil 0 []], .slice 53⟩
def ti275 : TI := ⟨1, 8, [.nilPtr], .ptr 277⟩
def ti277 : TI := ⟨2, 24, [.str [], .int .i64 0], .struct [(0, 9), (1, 30)]⟩
def ti278 : TI := ⟨1, 8, [.nilPtr], .ptr 281⟩
def ti279 : TI := ⟨1, 24, [.slice .nil 0 []], .slice 5⟩
def ti281 : TI := ⟨2, 32, [.slice .nil 0 [], .int .i64 0], .struct [(0, 279), (1, 30)]⟩
def ti283 : TI := ⟨1, 8, [.nilPtr], .ptr 152⟩
def ti285 : TI := ⟨1, 16, [.nilIface], .iface⟩
def ti287 : TI := ⟨2, 24, [.nilIface, .nilPtr], .struct [(0, 285), (1, 283)]⟩
def ti291 : TI := ⟨1, 8, [.nilFunc], .func⟩
def ti294 : TI := ⟨1, 8, [.nilPtr], .ptr 296⟩
def ti296 : TI := ⟨2, 16, [.int .i64 0, .int .i64 0], .struct [(0, 3), (1, 30)]⟩
def ti297 : TI := ⟨1, 8, [.nilPtr], .ptr 301⟩
def ti298 : TI := ⟨1, 8, [.nilPtr], .ptr 376⟩
def ti301 : TI := ⟨19, 200, [.nilPtr, .int .i8 0, .int .i64 0, .int .i64 0, .int .i64 0, .bool false, .slice .nil 0 [], .bool false, .int .i64 0, .int .i64 0, .int .i64 0, .int .i64 0, .int .i64 0, .str [], .str [], .int .i64 0, .int .i64 0, .int .i64 0, .slice .nil 0 []], .struct [(0, 298), (1, 198)]⟩
def ti302 : TI := ⟨1, 8, [.nilFunc], .func⟩
def ti303 : TI := ⟨1, 8, [.nilFunc], .func⟩
def ti310 : TI := ⟨2, 32, [.str [], .str []], .struct [(0, 9), (1, 9)]⟩
def ti311 : TI := ⟨1, 8, [.nilFunc], .func⟩
def ti312 : TI := ⟨1, 8, [.nilFunc], .func⟩
def ti313 : TI := ⟨1, 8, [.nilPtr], .ptr 315⟩
def ti315 : TI := ⟨5, 88, [.int .i64 0, .int .i64 0, .slice .nil 0 [], .slice .nil 0 [], .slice .nil 0 []], .struct [(0, 48)]⟩
def ti317 : TI := ⟨1, 8, [.nilPtr], .ptr 320⟩
def ti318 : TI := ⟨1, 8, [.nilMap], .map 3 139⟩
def ti320 : TI := ⟨6, 96, [.int .i64 0, .int .i64 0, .slice .nil 0 [], .slice .nil 0 [], .slice .nil 0 [], .nilMap], .struct [(0, 48), (5, 318)]⟩
def ti325 : TI := ⟨1, 8, [.nilFunc], .func⟩
def ti331 : TI := ⟨1, 8, [.nilPtr], .ptr 333⟩
def ti333 : TI := ⟨2, 24, [.str [], .int .i64 0], .struct [(0, 9), (1, 30)]⟩
def ti336 : TI := ⟨2, 16, [.int .i8 0, .int .i64 0], .struct [(0, 22), (1, 3)]⟩
def ti338 : TI := ⟨2, 16, [.int .i8 0, .int .i64 0], .struct [(0, 336)]⟩
def ti339 : TI := ⟨2, 16, [.int .i8 0, .int .i64 0], .struct [(0, 336)]⟩
def ti343 : TI := ⟨3, 24, [.int .i64 0, .int .i64 0, .int .i64 0], .struct [(0, 3), (1, 3), (2, 3)]⟩
def ti345 : TI := ⟨1, 8, [.nilFunc], .func⟩
def ti349 : TI := ⟨1, 8, [.nilFunc], .func⟩
def ti357 : TI := ⟨1, 8, [.nilPtr], .ptr 359⟩
def ti359 : TI := ⟨2, 24, [.str [], .int .i64 0], .struct [(0, 9), (1, 30)]⟩
def ti361 : TI := ⟨1, 8, [.nilFunc], .func⟩
def ti362 : TI := ⟨1, 8, [.nilFunc], .func⟩
def ti365 : TI := ⟨1, 8, [.nilFunc], .func⟩
def ti366 : TI := ⟨8, 64, [.nilFunc, .nilFunc, .nilFunc, .nilFunc, .nilFunc, .nilFunc, .nilFunc, .nilFunc], .array 8 365⟩
def ti368 : TI := ⟨1, 8, [.nilPtr], .ptr 370⟩
def ti370 : TI := ⟨1, 8, [.int .i64 0], .struct [(0, 30)]⟩
def ti372 : TI := ⟨4, 4, [.int .u8 0, .int .u8 0, .int .u8 0, .int .u8 0], .array 4 5⟩
def ti374 : TI := ⟨1, 8, [.nilFunc], .func⟩
def ti376 : TI := ⟨3, 32, [.str [], .int .i64 0, .bool false], .struct [(0, 9), (1, 3), (2, 4)]⟩
def ti378 : TI := ⟨1, 8, [.nilFunc], .func⟩
def ti379 : TI := ⟨7, 56, [.nilFunc, .nilFunc, .nilFunc, .nilFunc, .nilFunc, .nilFunc, .nilFunc], .array 7 303⟩
def ti382 : TI := ⟨1, 8, [.nilFunc], .func⟩
def ti384 : TI := ⟨24, 24, [.int .u8 0, .int .u8 0, .int .u8 0, .int .u8 0, .int .u8 0, .int .u8 0, .int .u8 0, .int .u8 0, .int .u8 0, .int .u8 0, .int .u8 0, .int .u8 0, .int .u8 0, .int .u8 0, .int .u8 0, .int .u8 0, .int .u8 0, .int .u8 0, .int .u8 0, .int .u8 0, .int .u8 0, .int .u8 0, .int .u8 0, .int .u8 0], .array 24 5⟩
def ti385 : TI := ⟨1, 8, [.int .u64 0], .int .u64⟩
def ti391 : TI := ⟨1, 8, [.nilFunc], .func⟩
def ti392 : TI := ⟨7, 56, [.nilFunc, .nilFunc, .nilFunc, .nilFunc, .nilFunc, .nilFunc, .nilFunc], .array 7 391⟩
def ti395 : TI := ⟨1, 8, [.nilFunc], .func⟩
def ti399 : TI := ⟨1, 8, [.nilPtr], .struct [(0, 298)]⟩
def ti400 : TI := ⟨1, 8, [.nilFunc], .func⟩
def ti406 : TI := ⟨1, 8, [.nilFunc], .func⟩
def ti409 : TI := ⟨1, 8, [.nilFunc], .func⟩
def ti412 : TI := ⟨1, 8, [.nilFunc], .func⟩
def ti419 : TI := ⟨1, 8, [.nilPtr], .ptr 150⟩
def ti421 : TI := ⟨1, 8, [.nilPtr], .ptr 4⟩
def ti423 : TI := ⟨1, 8, [.nilPtr], .ptr 425⟩
def ti425 : TI := ⟨2, 24, [.str [], .int .i64 0], .struct [(0, 9), (1, 30)]⟩
def ti435 : TI := ⟨1, 8, [.nilFunc], .func⟩
def ti440 : TI := ⟨20, 160, [.int .u64 0, .int .u64 0, .int .u64 0, .int .u64 0, .int .u64 0, .int .u64 0, .int .u64 0, .int .u64 0, .int .u64 0, .int .u64 0, .int .u64 0, .int .u64 0, .int .u64 0, .int .u64 0, .int .u64 0, .int .u64 0, .int .u64 0, .int .u64 0, .int .u64 0, .int .u64 0], .array 20 385⟩
def ti441 : TI := ⟨1, 4, [.int .u32 0], .int .u32⟩
def ti443 : TI := ⟨1, 8, [.int .u64 0], .int .u64⟩
def ti454 : TI := ⟨1, 8, [.nilPtr], .ptr 456⟩
def ti456 : TI := ⟨2, 24, [.str [], .int .i64 0], .struct [(0, 9), (1, 30)]⟩
def ti457 : TI := ⟨1, 8, [.nilFunc], .func⟩
def ti458 : TI := ⟨1, 8, [.nilPtr], .ptr 460⟩
def ti460 : TI := ⟨2, 32, [.str [], .nilIface], .struct [(0, 9), (1, 27)]⟩
def ti463 : TI := ⟨1, 8, [.nilPtr], .ptr 465⟩
def ti465 : TI := ⟨2, 32, [.slice .nil 0 [], .int .i64 0], .struct [(0, 279), (1, 30)]⟩
def ti466 : TI := ⟨1, 8, [.nilFunc], .func⟩
def ti471 : TI := ⟨2, 32, [.slice .nil 0 [], .int .i64 0], .struct [(0, 279), (1, 3)]⟩
def ti474 : TI := ⟨1, 8, [.nilFunc], .func⟩
def ti485 : TI := ⟨1, 8, [.nilFunc], .func⟩
def ti488 : TI := ⟨1, 8, [.nilPtr], .ptr 490⟩
def ti490 : TI := ⟨2, 24, [.str [], .int .i64 0], .struct [(0, 9), (1, 30)]⟩
def ti492 : TI := ⟨7, 56, [.nilFunc, .nilFunc, .nilFunc, .nilFunc, .nilFunc, .nilFunc, .nilFunc], .array 7 466⟩
def ti493 : TI := ⟨1, 8, [.nilPtr], .ptr 471⟩
def ti494 : TI := ⟨1, 8, [.nilPtr], .ptr 496⟩
def ti496 : TI := ⟨2, 16, [.int .i64 0, .int .i64 0], .struct [(0, 3), (1, 30)]⟩
def ti497 : TI := ⟨32, 32, [.int .u8 0, .int .u8 0, .int .u8 0, .int .u8 0, .int .u8 0, .int .u8 0, .int .u8 0, .int .u8 0, .int .u8 0, .int .u8 0, .int .u8 0, .int .u8 0, .int .u8 0, .int .u8 0, .int .u8 0, .int .u8 0, .int .u8 0, .int .u8 0, .int .u8 0, .int .u8 0, .int .u8 0, .int .u8 0, .int .u8 0, .int .u8 0, .int .u8 0, .int .u8 0, .int .u8 0, .int .u8 0, .int .u8 0, .int .u8 0, .int .u8 0, .int .u8 0], .array 32 5⟩
def ti498 : TI := ⟨64, 64, [.int .u8 0, .int .u8 0, .int .u8 0, .int .u8 0, .int .u8 0, .int .u8 0, .int .u8 0, .int .u8 0, .int .u8 0, .int .u8 0, .int .u8 0, .int .u8 0, .int .u8 0, .int .u8 0, .int .u8 0, .int .u8 0, .int .u8 0, .int .u8 0, .int .u8 0, .int .u8 0, .int .u8 0, .int .u8 0, .int .u8 0, .int .u8 0, .int .u8 0, .int .u8 0, .int .u8 0, .int .u8 0, .int .u8 0, .int .u8 0, .int .u8 0, .int .u8 0, .int .u8 0, .int .u8 0, .int .u8 0, .int .u8 0, .int .u8 0, .int .u8 0, .int .u8 0, .int .u8 0, .int .u8 0, .int .u8 0, .int .u8 0, .int .u8 0, .int .u8 0, .int .u8 0, .int .u8 0, .int .u8 0, .int .u8 0, .int .u8 0, .int .u8 0, .int .u8 0, .int .u8 0, .int .u8 0, .int .u8 0, .int .u8 0, .int .u8 0, .int .u8 0, .int .u8 0, .int .u8 0, .int .u8 0, .int .u8 0, .int .u8 0, .int .u8 0], .array 64 5⟩
def ti499 : TI := ⟨1, 8, [.nilPtr], .ptr 501⟩
def ti501 : TI := ⟨2, 16, [.int .i64 0, .int .i64 0], .struct [(0, 3), (1, 30)]⟩
def ti502 : TI := ⟨1, 8, [.nilFunc], .func⟩
def ti517 : TI := ⟨1, 8, [.nilPtr], .ptr 519⟩
def ti519 : TI := ⟨2, 24, [.str [], .int .i64 0], .struct [(0, 9), (1, 30)]⟩
def ti521 : TI := ⟨1, 24, [.slice .nil 0 []], .slice 279⟩
def ti531 : TI := ⟨1, 4, [.int .i32 0], .int .i32⟩
def ti532 : TI := ⟨1, 4, [.int .i32 0], .int .i32⟩
def ti544 : TI := ⟨1, 8, [.nilPtr], .ptr 548⟩
def ti549 : TI := ⟨1, 24, [.slice .nil 0 []], .slice 552⟩
def ti550 : TI := ⟨1, 4, [.int .i32 0], .int .i32⟩
def ti553 : TI := ⟨1, 8, [.nilPtr], .ptr 27⟩
def te : TE := [(2, ti2), (3, ti3), (4, ti4), (5, ti5), (6, ti6), (8, ti8), (9, ti9), (10, ti10), (11, ti11), (12, ti12), (15, ti15), (16, ti16), (17, ti17), (20, ti20), (22, ti22), (23, ti23), (25, ti25), (27, ti27), (30, ti30), (41, ti41), (42, ti42), (44, ti44), (45, ti45), (46, ti46), (48, ti48), (49, ti49), (50, ti50), (51, ti51), (53, ti53), (54, ti54), (55, ti55), (56, ti56), (58, ti58), (60, ti60), (65, ti65), (68, ti68), (70, ti70), (79, ti79), (80, ti80), (81, ti81), (84, ti84), (86, ti86), (87, ti87), (95, ti95), (100, ti100), (105, ti105), (110, ti110), (115, ti115), (116, ti116), (118, ti118), (119, ti119), (120, ti120), (122, ti122), (123, ti123), (125, ti125), (129, ti129), (132, ti132), (137, ti137), (139, ti139), (141, ti141), (150, ti150), (152, ti152), (157, ti157), (159, ti159), (160, ti160), (162, ti162), (163, ti163), (167, ti167), (168, ti168), (171, ti171), (174, ti174), (178, ti178), (180, ti180), (183, ti183), (188, ti188), (189, ti189), (191, ti191), (193, ti193), (194, ti194), (196, ti196), (198, ti198), (210, ti210), (211, ti211), (213, ti213), (219, ti219), (221, ti221), (222, ti222), (226, ti226), (227, ti227), (229, ti229), (232, ti232), (234, ti234), (238, ti238), (240, ti240), (251, ti251), (260, ti260), (266, ti266), (275, ti275), (277, ti277), (278, ti278), (279, ti279), (281, ti281), (283, ti283), (285, ti285), (287, ti287), (291, ti291), (294, ti294), (296, ti296), (297, ti297), (298, ti298), (301, ti301), (302, ti302), (303, ti303), (310, ti310), (311, ti311), (312, ti312), (313, ti313), (315, ti315), (317, ti317), (318, ti318), (320, ti320), (325, ti325), (331, ti331), (333, ti333), (336, ti336), (338, ti338), (339, ti339), (343, ti343), (345, ti345), (349, ti349), (357, ti357), (359, ti359), (361, ti361), (362, ti362), (365, ti365), (366, ti366), (368, ti368), (370, ti370), (372, ti372), (374, ti374), (376, ti376), (378, ti378), (379, ti379), (382, ti382), (384, ti384), (385, ti385), (391, ti391), (392, ti392), (395, ti395), (399, ti399), (400, ti400), (406, ti406), (409, ti409), (412, ti412), (419, ti419), (421, ti421), (423, ti423), (425, ti425), (435, ti435), (440, ti440), (441, ti441), (443, ti443), (454, ti454), (456, ti456), (457, ti457), (458, ti458), (460, ti460), (463, ti463), (465, ti465), (466, ti466), (471, ti471), (474, ti474), (485, ti485), (488, ti488), (490, ti490), (492, ti492), (493, ti493), (494, ti494), (496, ti496), (497, ti497), (498, ti498), (499, ti499), (501, ti501), (502, ti502), (517, ti517), (519, ti519), (521, ti521), (531, ti531), (532, ti532), (544, ti544), (549, ti549), (550, ti550), (553, ti553)]
theorem teNil : TeOk Tryz.prog [] := fun t ti h => by cases h
theorem teCons {t : Nat} {ti : TI} {r : TE} (h : TeOk1 Tryz.prog t ti) (hr : TeOk Tryz.prog r) : TeOk Tryz.prog ((t, ti) :: r) := fun u ui hu => by
  rw [look_cons] at hu
  split at hu
  · rename_i e; subst e; cases hu; exact h
  · exact hr u ui hu
theorem te2 : TeOk1 Tryz.prog 2 ti2 := ⟨by kernel_rfl, by kernel_rfl, by kernel_rfl, by kernel_rfl, fun _ => rfl, fun h => by cases h⟩
theorem te3 : TeOk1 Tryz.prog 3 ti3 := ⟨by kernel_rfl, by kernel_rfl, by kernel_rfl, by kernel_rfl, fun _ => rfl, fun h => by cases h⟩
theorem te4 : TeOk1 Tryz.prog 4 ti4 := ⟨by kernel_rfl, by kernel_rfl, by kernel_rfl, by kernel_rfl, fun _ => rfl, fun h => by cases h⟩
theorem te5 : TeOk1 Tryz.prog 5 ti5 := ⟨by kernel_rfl, by kernel_rfl, by kernel_rfl, by kernel_rfl, fun _ => rfl, fun h => by cases h⟩
theorem te6 : TeOk1 Tryz.prog 6 ti6 := ⟨by kernel_rfl, by kernel_rfl, by kernel_rfl, by kernel_rfl, fun _ => rfl, fun h => by cases h⟩
theorem te8 : TeOk1 Tryz.prog 8 ti8 := ⟨by kernel_rfl, by kernel_rfl, by kernel_rfl, by kernel_rfl, fun h => absurd h (by decide), fun _ => by kernel_rfl⟩
theorem te9 : TeOk1 Tryz.prog 9 ti9 := ⟨by kernel_rfl, by kernel_rfl, by kernel_rfl, by kernel_rfl, fun _ => rfl, fun h => by cases h⟩
theorem te10 : TeOk1 Tryz.prog 10 ti10 := ⟨by kernel_rfl, by kernel_rfl, by kernel_rfl, by kernel_rfl, fun _ => rfl, fun h => by cases h⟩
theorem te11 : TeOk1 Tryz.prog 11 ti11 := ⟨by kernel_rfl, by kernel_rfl, by kernel_rfl, by kernel_rfl, fun _ => rfl, fun h => by cases h⟩
theorem te12 : TeOk1 Tryz.prog 12 ti12 := ⟨by kernel_rfl, by kernel_rfl, by kernel_rfl, by kernel_rfl, fun _ => rfl, fun h => by cases h⟩
theorem te15 : TeOk1 Tryz.prog 15 ti15 := ⟨by kernel_rfl, by kernel_rfl, by kernel_rfl, by kernel_rfl, fun _ => rfl, fun h => by cases h⟩
theorem te16 : TeOk1 Tryz.prog 16 ti16 := ⟨by kernel_rfl, by kernel_rfl, by kernel_rfl, by kernel_rfl, fun _ => rfl, fun h => by cases h⟩
theorem te17 : TeOk1 Tryz.prog 17 ti17 := ⟨by kernel_rfl, by kernel_rfl, by kernel_rfl, by kernel_rfl, fun _ => rfl, fun h => by cases h⟩
theorem te20 : TeOk1 Tryz.prog 20 ti20 := ⟨by kernel_rfl, by kernel_rfl, by kernel_rfl, by kernel_rfl, fun _ => rfl, fun h => by cases h⟩
theorem te22 : TeOk1 Tryz.prog 22 ti22 := ⟨by kernel_rfl, by kernel_rfl, by kernel_rfl, by kernel_rfl, fun _ => rfl, fun h => by cases h⟩
theorem te23 : TeOk1 Tryz.prog 23 ti23 := ⟨by kernel_rfl, by kernel_rfl, by kernel_rfl, by kernel_rfl, fun _ => rfl, fun h => by cases h⟩
theorem te25 : TeOk1 Tryz.prog 25 ti25 := ⟨by kernel_rfl, by kernel_rfl, by kernel_rfl, by kernel_rfl, fun h => absurd h (by decide), fun _ => by kernel_rfl⟩
theorem te27 : TeOk1 Tryz.prog 27 ti27 := ⟨by kernel_rfl, by kernel_rfl, by kernel_rfl, by kernel_rfl, fun _ => rfl, fun h => by cases h⟩
theorem te30 : TeOk1 Tryz.prog 30 ti30 := ⟨by kernel_rfl, by kernel_rfl, by kernel_rfl, by kernel_rfl, fun _ => rfl, fun h => by cases h⟩
theorem te41 : TeOk1 Tryz.prog 41 ti41 := ⟨by kernel_rfl, by kernel_rfl, by kernel_rfl, by kernel_rfl, fun h => absurd h (by decide), fun _ => by kernel_rfl⟩
theorem te42 : TeOk1 Tryz.prog 42 ti42 := ⟨by kernel_rfl, by kernel_rfl, by kernel_rfl, by kernel_rfl, fun _ => rfl, fun h => by cases h⟩
theorem te44 : TeOk1 Tryz.prog 44 ti44 := ⟨by kernel_rfl, by kernel_rfl, by kernel_rfl, by kernel_rfl, fun _ => rfl, fun h => by cases h⟩
theorem te45 : TeOk1 Tryz.prog 45 ti45 := ⟨by kernel_rfl, by kernel_rfl, by kernel_rfl, by kernel_rfl, fun _ => rfl, fun h => by cases h⟩
theorem te46 : TeOk1 Tryz.prog 46 ti46 := ⟨by kernel_rfl, by kernel_rfl, by kernel_rfl, by kernel_rfl, fun _ => rfl, fun h => by cases h⟩
theorem te48 : TeOk1 Tryz.prog 48 ti48 := ⟨by kernel_rfl, by kernel_rfl, by kernel_rfl, by kernel_rfl, fun h => absurd h (by decide), fun _ => by kernel_rfl⟩
theorem te49 : TeOk1 Tryz.prog 49 ti49 := ⟨by kernel_rfl, by kernel_rfl, by kernel_rfl, by kernel_rfl, fun h => absurd h (by decide), fun h => by cases h⟩
theorem te50 : TeOk1 Tryz.prog 50 ti50 := ⟨by kernel_rfl, by kernel_rfl, by kernel_rfl, by kernel_rfl, fun _ => rfl, fun h => by cases h⟩
theorem te51 : TeOk1 Tryz.prog 51 ti51 := ⟨by kernel_rfl, by kernel_rfl, by kernel_rfl, by kernel_rfl, fun _ => rfl, fun h => by cases h⟩
theorem te53 : TeOk1 Tryz.prog 53 ti53 := ⟨by kernel_rfl, by kernel_rfl, by kernel_rfl, by kernel_rfl, fun h => absurd h (by decide), fun _ => by kernel_rfl⟩
theorem te54 : TeOk1 Tryz.prog 54 ti54 := ⟨by kernel_rfl, by kernel_rfl, by kernel_rfl, by kernel_rfl, fun h => absurd h (by decide), fun h => by cases h⟩
theorem te55 : TeOk1 Tryz.prog 55 ti55 := ⟨by kernel_rfl, by kernel_rfl, by kernel_rfl, by kernel_rfl, fun h => absurd h (by decide), fun h => by cases h⟩
theorem te56 : TeOk1 Tryz.prog 56 ti56 := ⟨by kernel_rfl, by kernel_rfl, by kernel_rfl, by kernel_rfl, fun h => absurd h (by decide), fun h => by cases h⟩
theorem te58 : TeOk1 Tryz.prog 58 ti58 := ⟨by kernel_rfl, by kernel_rfl, by kernel_rfl, by kernel_rfl, fun h => absurd h (by decide), fun _ => by kernel_rfl⟩
theorem te60 : TeOk1 Tryz.prog 60 ti60 := ⟨by kernel_rfl, by kernel_rfl, by kernel_rfl, by kernel_rfl, fun h => absurd h (by decide), fun _ => by kernel_rfl⟩
theorem te65 : TeOk1 Tryz.prog 65 ti65 := ⟨by kernel_rfl, by kernel_rfl, by kernel_rfl, by kernel_rfl, fun h => absurd h (by decide), fun _ => by kernel_rfl⟩
theorem te68 : TeOk1 Tryz.prog 68 ti68 := ⟨by kernel_rfl, by kernel_rfl, by kernel_rfl, by kernel_rfl, fun _ => rfl, fun h => by cases h⟩
theorem te70 : TeOk1 Tryz.prog 70 ti70 := ⟨by kernel_rfl, by kernel_rfl, by kernel_rfl, by kernel_rfl, fun h => absurd h (by decide), fun _ => by kernel_rfl⟩
theorem te79 : TeOk1 Tryz.prog 79 ti79 := ⟨by kernel_rfl, by kernel_rfl, by kernel_rfl, by kernel_rfl, fun _ => rfl, fun h => by cases h⟩
theorem te80 : TeOk1 Tryz.prog 80 ti80 := ⟨by kernel_rfl, by kernel_rfl, by kernel_rfl, by kernel_rfl, fun _ => rfl, fun h => by cases h⟩
theorem te81 : TeOk1 Tryz.prog 81 ti81 := ⟨by kernel_rfl, by kernel_rfl, by kernel_rfl, by kernel_rfl, fun _ => rfl, fun h => by cases h⟩
theorem te84 : TeOk1 Tryz.prog 84 ti84 := ⟨by kernel_rfl, by kernel_rfl, by kernel_rfl, by kernel_rfl, fun h => absurd h (by decide), fun _ => by kernel_rfl⟩
theorem te86 : TeOk1 Tryz.prog 86 ti86 := ⟨by kernel_rfl, by kernel_rfl, by kernel_rfl, by kernel_rfl, fun _ => rfl, fun h => by cases h⟩
theorem te87 : TeOk1 Tryz.prog 87 ti87 := ⟨by kernel_rfl, by kernel_rfl, by kernel_rfl, by kernel_rfl, fun _ => rfl, fun h => by cases h⟩
theorem te95 : TeOk1 Tryz.prog 95 ti95 := ⟨by kernel_rfl, by kernel_rfl, by kernel_rfl, by kernel_rfl, fun _ => rfl, fun h => by cases h⟩
theorem te100 : TeOk1 Tryz.prog 100 ti100 := ⟨by kernel_rfl, by kernel_rfl, by kernel_rfl, by kernel_rfl, fun _ => rfl, fun h => by cases h⟩
theorem te105 : TeOk1 Tryz.prog 105 ti105 := ⟨by kernel_rfl, by kernel_rfl, by kernel_rfl, by kernel_rfl, fun _ => rfl, fun h => by cases h⟩
theorem te110 : TeOk1 Tryz.prog 110 ti110 := ⟨by kernel_rfl, by kernel_rfl, by kernel_rfl, by kernel_rfl, fun _ => rfl, fun h => by cases h⟩
theorem te115 : TeOk1 Tryz.prog 115 ti115 := ⟨by kernel_rfl, by kernel_rfl, by kernel_rfl, by kernel_rfl, fun h => absurd h (by decide), fun _ => by kernel_rfl⟩
theorem te116 : TeOk1 Tryz.prog 116 ti116 := ⟨by kernel_rfl, by kernel_rfl, by kernel_rfl, by kernel_rfl, fun _ => rfl, fun h => by cases h⟩
theorem te118 : TeOk1 Tryz.prog 118 ti118 := ⟨by kernel_rfl, by kernel_rfl, by kernel_rfl, by kernel_rfl, fun h => absurd h (by decide), fun _ => by kernel_rfl⟩
theorem te119 : TeOk1 Tryz.prog 119 ti119 := ⟨by kernel_rfl, by kernel_rfl, by kernel_rfl, by kernel_rfl, fun _ => rfl, fun h => by cases h⟩
theorem te120 : TeOk1 Tryz.prog 120 ti120 := ⟨by kernel_rfl, by kernel_rfl, by kernel_rfl, by kernel_rfl, fun _ => rfl, fun h => by cases h⟩
theorem te122 : TeOk1 Tryz.prog 122 ti122 := ⟨by kernel_rfl, by kernel_rfl, by kernel_rfl, by kernel_rfl, fun h => absurd h (by decide), fun _ => by kernel_rfl⟩
theorem te123 : TeOk1 Tryz.prog 123 ti123 := ⟨by kernel_rfl, by kernel_rfl, by kernel_rfl, by kernel_rfl, fun _ => rfl, fun h => by cases h⟩
theorem te125 : TeOk1 Tryz.prog 125 ti125 := ⟨by kernel_rfl, by kernel_rfl, by kernel_rfl, by kernel_rfl, fun h => absurd h (by decide), fun _ => by kernel_rfl⟩
theorem te129 : TeOk1 Tryz.prog 129 ti129 := ⟨by kernel_rfl, by kernel_rfl, by kernel_rfl, by kernel_rfl, fun _ => rfl, fun h => by cases h⟩
theorem te132 : TeOk1 Tryz.prog 132 ti132 := ⟨by kernel_rfl, by kernel_rfl, by kernel_rfl, by kernel_rfl, fun _ => rfl, fun h => by cases h⟩
theorem te137 : TeOk1 Tryz.prog 137 ti137 := ⟨by kernel_rfl, by kernel_rfl, by kernel_rfl, by kernel_rfl, fun _ => rfl, fun h => by cases h⟩
theorem te139 : TeOk1 Tryz.prog 139 ti139 := ⟨by kernel_rfl, by kernel_rfl, by kernel_rfl, by kernel_rfl, fun _ => rfl, fun h => by cases h⟩
theorem te141 : TeOk1 Tryz.prog 141 ti141 := ⟨by kernel_rfl, by kernel_rfl, by kernel_rfl, by kernel_rfl, fun h => absurd h (by decide), fun _ => by kernel_rfl⟩
theorem te150 : TeOk1 Tryz.prog 150 ti150 := ⟨by kernel_rfl, by kernel_rfl, by kernel_rfl, by kernel_rfl, fun h => absurd h (by decide), fun _ => by kernel_rfl⟩
theorem te152 : TeOk1 Tryz.prog 152 ti152 := ⟨by kernel_rfl, by kernel_rfl, by kernel_rfl, by kernel_rfl, fun h => absurd h (by decide), fun _ => by kernel_rfl⟩
theorem te157 : TeOk1 Tryz.prog 157 ti157 := ⟨by kernel_rfl, by kernel_rfl, by kernel_rfl, by kernel_rfl, fun _ => rfl, fun h => by cases h⟩
theorem te159 : TeOk1 Tryz.prog 159 ti159 := ⟨by kernel_rfl, by kernel_rfl, by kernel_rfl, by kernel_rfl, fun h => absurd h (by decide), fun h => by cases h⟩
theorem te160 : TeOk1 Tryz.prog 160 ti160 := ⟨by kernel_rfl, by kernel_rfl, by kernel_rfl, by kernel_rfl, fun _ => rfl, fun h => by cases h⟩
theorem te162 : TeOk1 Tryz.prog 162 ti162 := ⟨by kernel_rfl, by kernel_rfl, by kernel_rfl, by kernel_rfl, fun h => absurd h (by decide), fun _ => by kernel_rfl⟩
theorem te163 : TeOk1 Tryz.prog 163 ti163 := ⟨by kernel_rfl, by kernel_rfl, by kernel_rfl, by kernel_rfl, fun _ => rfl, fun h => by cases h⟩
theorem te167 : TeOk1 Tryz.prog 167 ti167 := ⟨by kernel_rfl, by kernel_rfl, by kernel_rfl, by kernel_rfl, fun _ => rfl, fun h => by cases h⟩
theorem te168 : TeOk1 Tryz.prog 168 ti168 := ⟨by kernel_rfl, by kernel_rfl, by kernel_rfl, by kernel_rfl, fun _ => rfl, fun h => by cases h⟩
theorem te171 : TeOk1 Tryz.prog 171 ti171 := ⟨by kernel_rfl, by kernel_rfl, by kernel_rfl, by kernel_rfl, fun _ => rfl, fun h => by cases h⟩
theorem te174 : TeOk1 Tryz.prog 174 ti174 := ⟨by kernel_rfl, by kernel_rfl, by kernel_rfl, by kernel_rfl, fun _ => rfl, fun h => by cases h⟩
theorem te178 : TeOk1 Tryz.prog 178 ti178 := ⟨by kernel_rfl, by kernel_rfl, by kernel_rfl, by kernel_rfl, fun _ => rfl, fun h => by cases h⟩
theorem te180 : TeOk1 Tryz.prog 180 ti180 := ⟨by kernel_rfl, by kernel_rfl, by kernel_rfl, by kernel_rfl, fun _ => rfl, fun h => by cases h⟩
theorem te183 : TeOk1 Tryz.prog 183 ti183 := ⟨by kernel_rfl, by kernel_rfl, by kernel_rfl, by kernel_rfl, fun h => absurd h (by decide), fun _ => by kernel_rfl⟩
theorem te188 : TeOk1 Tryz.prog 188 ti188 := ⟨by kernel_rfl, by kernel_rfl, by kernel_rfl, by kernel_rfl, fun _ => rfl, fun h => by cases h⟩
theorem te189 : TeOk1 Tryz.prog 189 ti189 := ⟨by kernel_rfl, by kernel_rfl, by kernel_rfl, by kernel_rfl, fun _ => rfl, fun h => by cases h⟩
theorem te191 : TeOk1 Tryz.prog 191 ti191 := ⟨by kernel_rfl, by kernel_rfl, by kernel_rfl, by kernel_rfl, fun h => absurd h (by decide), fun _ => by kernel_rfl⟩
theorem te193 : TeOk1 Tryz.prog 193 ti193 := ⟨by kernel_rfl, by kernel_rfl, by kernel_rfl, by kernel_rfl, fun h => absurd h (by decide), fun _ => by kernel_rfl⟩
theorem te194 : TeOk1 Tryz.prog 194 ti194 := ⟨by kernel_rfl, by kernel_rfl, by kernel_rfl, by kernel_rfl, fun _ => rfl, fun h => by cases h⟩
theorem te196 : TeOk1 Tryz.prog 196 ti196 := ⟨by kernel_rfl, by kernel_rfl, by kernel_rfl, by kernel_rfl, fun h => absurd h (by decide), fun _ => by kernel_rfl⟩
theorem te198 : TeOk1 Tryz.prog 198 ti198 := ⟨by kernel_rfl, by kernel_rfl, by kernel_rfl, by kernel_rfl, fun h => absurd h (by decide), fun _ => by kernel_rfl⟩
theorem te210 : TeOk1 Tryz.prog 210 ti210 := ⟨by kernel_rfl, by kernel_rfl, by kernel_rfl, by kernel_rfl, fun _ => rfl, fun h => by cases h⟩
theorem te211 : TeOk1 Tryz.prog 211 ti211 := ⟨by kernel_rfl, by kernel_rfl, by kernel_rfl, by kernel_rfl, fun _ => rfl, fun h => by cases h⟩
theorem te213 : TeOk1 Tryz.prog 213 ti213 := ⟨by kernel_rfl, by kernel_rfl, by kernel_rfl, by kernel_rfl, fun h => absurd h (by decide), fun _ => by kernel_rfl⟩
theorem te219 : TeOk1 Tryz.prog 219 ti219 := ⟨by kernel_rfl, by kernel_rfl, by kernel_rfl, by kernel_rfl, fun _ => rfl, fun h => by cases h⟩
theorem te221 : TeOk1 Tryz.prog 221 ti221 := ⟨by kernel_rfl, by kernel_rfl, by kernel_rfl, by kernel_rfl, fun h => absurd h (by decide), fun _ => by kernel_rfl⟩
theorem te222 : TeOk1 Tryz.prog 222 ti222 := ⟨by kernel_rfl, by kernel_rfl, by kernel_rfl, by kernel_rfl, fun _ => rfl, fun h => by cases h⟩
theorem te226 : TeOk1 Tryz.prog 226 ti226 := ⟨by kernel_rfl, by kernel_rfl, by kernel_rfl, by kernel_rfl, fun _ => rfl, fun h => by cases h⟩
theorem te227 : TeOk1 Tryz.prog 227 ti227 := ⟨by kernel_rfl, by kernel_rfl, by kernel_rfl, by kernel_rfl, fun _ => rfl, fun h => by cases h⟩
theorem te229 : TeOk1 Tryz.prog 229 ti229 := ⟨by kernel_rfl, by kernel_rfl, by kernel_rfl, by kernel_rfl, fun h => absurd h (by decide), fun _ => by kernel_rfl⟩
theorem te232 : TeOk1 Tryz.prog 232 ti232 := ⟨by kernel_rfl, by kernel_rfl, by kernel_rfl, by kernel_rfl, fun _ => rfl, fun h => by cases h⟩
theorem te234 : TeOk1 Tryz.prog 234 ti234 := ⟨by kernel_rfl, by kernel_rfl, by kernel_rfl, by kernel_rfl, fun _ => rfl, fun h => by cases h⟩
theorem te238 : TeOk1 Tryz.prog 238 ti238 := ⟨by kernel_rfl, by kernel_rfl, by kernel_rfl, by kernel_rfl, fun _ => rfl, fun h => by cases h⟩
theorem te240 : TeOk1 Tryz.prog 240 ti240 := ⟨by kernel_rfl, by kernel_rfl, by kernel_rfl, by kernel_rfl, fun h => absurd h (by decide), fun _ => by kernel_rfl⟩
theorem te251 : TeOk1 Tryz.prog 251 ti251 := ⟨by kernel_rfl, by kernel_rfl, by kernel_rfl, by kernel_rfl, fun _ => rfl, fun h => by cases h⟩
theorem te260 : TeOk1 Tryz.prog 260 ti260 := ⟨by kernel_rfl, by kernel_rfl, by kernel_rfl, by kernel_rfl, fun _ => rfl, fun h => by cases h⟩
theorem te266 : TeOk1 Tryz.prog 266 ti266 := ⟨by kernel_rfl, by kernel_rfl, by kernel_rfl, by kernel_rfl, fun _ => rfl, fun h => by cases h⟩
theorem te275 : TeOk1 Tryz.prog 275 ti275 := ⟨by kernel_rfl, by kernel_rfl, by kernel_rfl, by kernel_rfl, fun _ => rfl, fun h => by cases h⟩
theorem te277 : TeOk1 Tryz.prog 277 ti277 := ⟨by kernel_rfl, by kernel_rfl, by kernel_rfl, by kernel_rfl, fun h => absurd h (by decide), fun _ => by kernel_rfl⟩
theorem te278 : TeOk1 Tryz.prog 278 ti278 := ⟨by kernel_rfl, by kernel_rfl, by kernel_rfl, by kernel_rfl, fun _ => rfl, fun h => by cases h⟩
theorem te279 : TeOk1 Tryz.prog 279 ti279 := ⟨by kernel_rfl, by kernel_rfl, by kernel_rfl, by kernel_rfl, fun _ => rfl, fun h => by cases h⟩
theorem te281 : TeOk1 Tryz.prog 281 ti281 := ⟨by kernel_rfl, by kernel_rfl, by kernel_rfl, by kernel_rfl, fun h => absurd h (by decide), fun _ => by kernel_rfl⟩
theorem te283 : TeOk1 Tryz.prog 283 ti283 := ⟨by kernel_rfl, by kernel_rfl, by kernel_rfl, by kernel_rfl, fun _ => rfl, fun h => by cases h⟩
theorem te285 : TeOk1 Tryz.prog 285 ti285 := ⟨by kernel_rfl, by kernel_rfl, by kernel_rfl, by kernel_rfl, fun _ => rfl, fun h => by cases h⟩
theorem te287 : TeOk1 Tryz.prog 287 ti287 := ⟨by kernel_rfl, by kernel_rfl, by kernel_rfl, by kernel_rfl, fun h => absurd h (by decide), fun _ => by kernel_rfl⟩
theorem te291 : TeOk1 Tryz.prog 291 ti291 := ⟨by kernel_rfl, by kernel_rfl, by kernel_rfl, by kernel_rfl, fun _ => rfl, fun h => by cases h⟩
theorem te294 : TeOk1 Tryz.prog 294 ti294 := ⟨by kernel_rfl, by kernel_rfl, by kernel_rfl, by kernel_rfl, fun _ => rfl, fun h => by cases h⟩
theorem te296 : TeOk1 Tryz.prog 296 ti296 := ⟨by kernel_rfl, by kernel_rfl, by kernel_rfl, by kernel_rfl, fun h => absurd h (by decide), fun _ => by kernel_rfl⟩
theorem te297 : TeOk1 Tryz.prog 297 ti297 := ⟨by kernel_rfl, by kernel_rfl, by kernel_rfl, by kernel_rfl, fun _ => rfl, fun h => by cases h⟩
theorem te298 : TeOk1 Tryz.prog 298 ti298 := ⟨by kernel_rfl, by kernel_rfl, by kernel_rfl, by kernel_rfl, fun _ => rfl, fun h => by cases h⟩
theorem te301 : TeOk1 Tryz.prog 301 ti301 := ⟨by kernel_rfl, by kernel_rfl, by kernel_rfl, by kernel_rfl, fun h => absurd h (by decide), fun _ => by kernel_rfl⟩
theorem te302 : TeOk1 Tryz.prog 302 ti302 := ⟨by kernel_rfl, by kernel_rfl, by kernel_rfl, by kernel_rfl, fun _ => rfl, fun h => by cases h⟩
theorem te303 : TeOk1 Tryz.prog 303 ti303 := ⟨by kernel_rfl, by kernel_rfl, by kernel_rfl, by kernel_rfl, fun _ => rfl, fun h => by cases h⟩
theorem te310 : TeOk1 Tryz.prog 310 ti310 := ⟨by kernel_rfl, by kernel_rfl, by kernel_rfl, by kernel_rfl, fun h => absurd h (by decide), fun _ => by kernel_rfl⟩
theorem te311 : TeOk1 Tryz.prog 311 ti311 := ⟨by kernel_rfl, by kernel_rfl, by kernel_rfl, by kernel_rfl, fun _ => rfl, fun h => by cases h⟩
theorem te312 : TeOk1 Tryz.prog 312 ti312 := ⟨by kernel_rfl, by kernel_rfl, by kernel_rfl, by kernel_rfl, fun _ => rfl, fun h => by cases h⟩
theorem te313 : TeOk1 Tryz.prog 313 ti313 := ⟨by kernel_rfl, by kernel_rfl, by kernel_rfl, by kernel_rfl, fun _ => rfl, fun h => by cases h⟩
theorem te315 : TeOk1 Tryz.prog 315 ti315 := ⟨by kernel_rfl, by kernel_rfl, by kernel_rfl, by kernel_rfl, fun h => absurd h (by decide), fun _ => by kernel_rfl⟩
theorem te317 : TeOk1 Tryz.prog 317 ti317 := ⟨by kernel_rfl, by kernel_rfl, by kernel_rfl, by kernel_rfl, fun _ => rfl, fun h => by cases h⟩
theorem te318 : TeOk1 Tryz.prog 318 ti318 := ⟨by kernel_rfl, by kernel_rfl, by kernel_rfl, by kernel_rfl, fun _ => rfl, fun h => by cases h⟩
theorem te320 : TeOk1 Tryz.prog 320 ti320 := ⟨by kernel_rfl, by kernel_rfl, by kernel_rfl, by kernel_rfl, fun h => absurd h (by decide), fun _ => by kernel_rfl⟩
theorem te325 : TeOk1 Tryz.prog 325 ti325 := ⟨by kernel_rfl, by kernel_rfl, by kernel_rfl, by kernel_rfl, fun _ => rfl, fun h => by cases h⟩
theorem te331 : TeOk1 Tryz.prog 331 ti331 := ⟨by kernel_rfl, by kernel_rfl, by kernel_rfl, by kernel_rfl, fun _ => rfl, fun h => by cases h⟩
theorem te333 : TeOk1 Tryz.prog 333 ti333 := ⟨by kernel_rfl, by kernel_rfl, by kernel_rfl, by kernel_rfl, fun h => absurd h (by decide), fun _ => by kernel_rfl⟩
theorem te336 : TeOk1 Tryz.prog 336 ti336 := ⟨by kernel_rfl, by kernel_rfl, by kernel_rfl, by kernel_rfl, fun h => absurd h (by decide), fun _ => by kernel_rfl⟩
theorem te338 : TeOk1 Tryz.prog 338 ti338 := ⟨by kernel_rfl, by kernel_rfl, by kernel_rfl, by kernel_rfl, fun h => absurd h (by decide), fun _ => by kernel_rfl⟩
theorem te339 : TeOk1 Tryz.prog 339 ti339 := ⟨by kernel_rfl, by kernel_rfl, by kernel_rfl, by kernel_rfl, fun h => absurd h (by decide), fun _ => by kernel_rfl⟩
theorem te343 : TeOk1 Tryz.prog 343 ti343 := ⟨by kernel_rfl, by kernel_rfl, by kernel_rfl, by kernel_rfl, fun h => absurd h (by decide), fun _ => by kernel_rfl⟩
theorem te345 : TeOk1 Tryz.prog 345 ti345 := ⟨by kernel_rfl, by kernel_rfl, by kernel_rfl, by kernel_rfl, fun _ => rfl, fun h => by cases h⟩
theorem te349 : TeOk1 Tryz.prog 349 ti349 := ⟨by kernel_rfl, by kernel_rfl, by kernel_rfl, by kernel_rfl, fun _ => rfl, fun h => by cases h⟩
theorem te357 : TeOk1 Tryz.prog 357 ti357 := ⟨by kernel_rfl, by kernel_rfl, by kernel_rfl, by kernel_rfl, fun _ => rfl, fun h => by cases h⟩
theorem te359 : TeOk1 Tryz.prog 359 ti359 := ⟨by kernel_rfl, by kernel_rfl, by kernel_rfl, by kernel_rfl, fun h => absurd h (by decide), fun _ => by kernel_rfl⟩
theorem te361 : TeOk1 Tryz.prog 361 ti361 := ⟨by kernel_rfl, by kernel_rfl, by kernel_rfl, by kernel_rfl, fun _ => rfl, fun h => by cases h⟩
theorem te362 : TeOk1 Tryz.prog 362 ti362 := ⟨by kernel_rfl, by kernel_rfl, by kernel_rfl, by kernel_rfl, fun _ => rfl, fun h => by cases h⟩
theorem te365 : TeOk1 Tryz.prog 365 ti365 := ⟨by kernel_rfl, by kernel_rfl, by kernel_rfl, by kernel_rfl, fun _ => rfl, fun h => by cases h⟩
theorem te366 : TeOk1 Tryz.prog 366 ti366 := ⟨by kernel_rfl, by kernel_rfl, by kernel_rfl, by kernel_rfl, fun h => absurd h (by decide), fun h => by cases h⟩
theorem te368 : TeOk1 Tryz.prog 368 ti368 := ⟨by kernel_rfl, by kernel_rfl, by kernel_rfl, by kernel_rfl, fun _ => rfl, fun h => by cases h⟩
theorem te370 : TeOk1 Tryz.prog 370 ti370 := ⟨by kernel_rfl, by kernel_rfl, by kernel_rfl, by kernel_rfl, fun h => absurd h (by decide), fun _ => by kernel_rfl⟩
theorem te372 : TeOk1 Tryz.prog 372 ti372 := ⟨by kernel_rfl, by kernel_rfl, by kernel_rfl, by kernel_rfl, fun h => absurd h (by decide), fun h => by cases h⟩
theorem te374 : TeOk1 Tryz.prog 374 ti374 := ⟨by kernel_rfl, by kernel_rfl, by kernel_rfl, by kernel_rfl, fun _ => rfl, fun h => by cases h⟩
theorem te376 : TeOk1 Tryz.prog 376 ti376 := ⟨by kernel_rfl, by kernel_rfl, by kernel_rfl, by kernel_rfl, fun h => absurd h (by decide), fun _ => by kernel_rfl⟩
theorem te378 : TeOk1 Tryz.prog 378 ti378 := ⟨by kernel_rfl, by kernel_rfl, by kernel_rfl, by kernel_rfl, fun _ => rfl, fun h => by cases h⟩
theorem te379 : TeOk1 Tryz.prog 379 ti379 := ⟨by kernel_rfl, by kernel_rfl, by kernel_rfl, by kernel_rfl, fun h => absurd h (by decide), fun h => by cases h⟩
theorem te382 : TeOk1 Tryz.prog 382 ti382 := ⟨by kernel_rfl, by kernel_rfl, by kernel_rfl, by kernel_rfl, fun _ => rfl, fun h => by cases h⟩
theorem te384 : TeOk1 Tryz.prog 384 ti384 := ⟨by kernel_rfl, by kernel_rfl, by kernel_rfl, by kernel_rfl, fun h => absurd h (by decide), fun h => by cases h⟩
theorem te385 : TeOk1 Tryz.prog 385 ti385 := ⟨by kernel_rfl, by kernel_rfl, by kernel_rfl, by kernel_rfl, fun _ => rfl, fun h => by cases h⟩
theorem te391 : TeOk1 Tryz.prog 391 ti391 := ⟨by kernel_rfl, by kernel_rfl, by kernel_rfl, by kernel_rfl, fun _ => rfl, fun h => by cases h⟩
theorem te392 : TeOk1 Tryz.prog 392 ti392 := ⟨by kernel_rfl, by kernel_rfl, by kernel_rfl, by kernel_rfl, fun h => absurd h (by decide), fun h => by cases h⟩
theorem te395 : TeOk1 Tryz.prog 395 ti395 := ⟨by kernel_rfl, by kernel_rfl, by kernel_rfl, by kernel_rfl, fun _ => rfl, fun h => by cases h⟩
theorem te399 : TeOk1 Tryz.prog 399 ti399 := ⟨by kernel_rfl, by kernel_rfl, by kernel_rfl, by kernel_rfl, fun h => absurd h (by decide), fun _ => by kernel_rfl⟩
theorem te400 : TeOk1 Tryz.prog 400 ti400 := ⟨by kernel_rfl, by kernel_rfl, by kernel_rfl, by kernel_rfl, fun _ => rfl, fun h => by cases h⟩
theorem te406 : TeOk1 Tryz.prog 406 ti406 := ⟨by kernel_rfl, by kernel_rfl, by kernel_rfl, by kernel_rfl, fun _ => rfl, fun h => by cases h⟩
theorem te409 : TeOk1 Tryz.prog 409 ti409 := ⟨by kernel_rfl, by kernel_rfl, by kernel_rfl, by kernel_rfl, fun _ => rfl, fun h => by cases h⟩
theorem te412 : TeOk1 Tryz.prog 412 ti412 := ⟨by kernel_rfl, by kernel_rfl, by kernel_rfl, by kernel_rfl, fun _ => rfl, fun h => by cases h⟩
theorem te419 : TeOk1 Tryz.prog 419 ti419 := ⟨by kernel_rfl, by kernel_rfl, by kernel_rfl, by kernel_rfl, fun _ => rfl, fun h => by cases h⟩
theorem te421 : TeOk1 Tryz.prog 421 ti421 := ⟨by kernel_rfl, by kernel_rfl, by kernel_rfl, by kernel_rfl, fun _ => rfl, fun h => by cases h⟩
theorem te423 : TeOk1 Tryz.prog 423 ti423 := ⟨by kernel_rfl, by kernel_rfl, by kernel_rfl, by kernel_rfl, fun _ => rfl, fun h => by cases h⟩
theorem te425 : TeOk1 Tryz.prog 425 ti425 := ⟨by kernel_rfl, by kernel_rfl, by kernel_rfl, by kernel_rfl, fun h => absurd h (by decide), fun _ => by kernel_rfl⟩
theorem te435 : TeOk1 Tryz.prog 435 ti435 := ⟨by kernel_rfl, by kernel_rfl, by kernel_rfl, by kernel_rfl, fun _ => rfl, fun h => by cases h⟩
theorem te440 : TeOk1 Tryz.prog 440 ti440 := ⟨by kernel_rfl, by kernel_rfl, by kernel_rfl, by kernel_rfl, fun h => absurd h (by decide), fun h => by cases h⟩
theorem te441 : TeOk1 Tryz.prog 441 ti441 := ⟨by kernel_rfl, by kernel_rfl, by kernel_rfl, by kernel_rfl, fun _ => rfl, fun h => by cases h⟩
theorem te443 : TeOk1 Tryz.prog 443 ti443 := ⟨by kernel_rfl, by kernel_rfl, by kernel_rfl, by kernel_rfl, fun _ => rfl, fun h => by cases h⟩
theorem te454 : TeOk1 Tryz.prog 454 ti454 := ⟨by kernel_rfl, by kernel_rfl, by kernel_rfl, by kernel_rfl, fun _ => rfl, fun h => by cases h⟩
theorem te456 : TeOk1 Tryz.prog 456 ti456 := ⟨by kernel_rfl, by kernel_rfl, by kernel_rfl, by kernel_rfl, fun h => absurd h (by decide), fun _ => by kernel_rfl⟩
theorem te457 : TeOk1 Tryz.prog 457 ti457 := ⟨by kernel_rfl, by kernel_rfl, by kernel_rfl, by kernel_rfl, fun _ => rfl, fun h => by cases h⟩
theorem te458 : TeOk1 Tryz.prog 458 ti458 := ⟨by kernel_rfl, by kernel_rfl, by kernel_rfl, by kernel_rfl, fun _ => rfl, fun h => by cases h⟩
theorem te460 : TeOk1 Tryz.prog 460 ti460 := ⟨by kernel_rfl, by kernel_rfl, by kernel_rfl, by kernel_rfl, fun h => absurd h (by decide), fun _ => by kernel_rfl⟩
theorem te463 : TeOk1 Tryz.prog 463 ti463 := ⟨by kernel_rfl, by kernel_rfl, by kernel_rfl, by kernel_rfl, fun _ => rfl, fun h => by cases h⟩
theorem te465 : TeOk1 Tryz.prog 465 ti465 := ⟨by kernel_rfl, by kernel_rfl, by kernel_rfl, by kernel_rfl, fun h => absurd h (by decide), fun _ => by kernel_rfl⟩
theorem te466 : TeOk1 Tryz.prog 466 ti466 := ⟨by kernel_rfl, by kernel_rfl, by kernel_rfl, by kernel_rfl, fun _ => rfl, fun h => by cases h⟩
theorem te471 : TeOk1 Tryz.prog 471 ti471 := ⟨by kernel_rfl, by kernel_rfl, by kernel_rfl, by kernel_rfl, fun h => absurd h (by decide), fun _ => by kernel_rfl⟩
theorem te474 : TeOk1 Tryz.prog 474 ti474 := ⟨by kernel_rfl, by kernel_rfl, by kernel_rfl, by kernel_rfl, fun _ => rfl, fun h => by cases h⟩
theorem te485 : TeOk1 Tryz.prog 485 ti485 := ⟨by kernel_rfl, by kernel_rfl, by kernel_rfl, by kernel_rfl, fun _ => rfl, fun h => by cases h⟩
theorem te488 : TeOk1 Tryz.prog 488 ti488 := ⟨by kernel_rfl, by kernel_rfl, by kernel_rfl, by kernel_rfl, fun _ => rfl, fun h => by cases h⟩
theorem te490 : TeOk1 Tryz.prog 490 ti490 := ⟨by kernel_rfl, by kernel_rfl, by kernel_rfl, by kernel_rfl, fun h => absurd h (by decide), fun _ => by kernel_rfl⟩
theorem te492 : TeOk1 Tryz.prog 492 ti492 := ⟨by kernel_rfl, by kernel_rfl, by kernel_rfl, by kernel_rfl, fun h => absurd h (by decide), fun h => by cases h⟩
theorem te493 : TeOk1 Tryz.prog 493 ti493 := ⟨by kernel_rfl, by kernel_rfl, by kernel_rfl, by kernel_rfl, fun _ => rfl, fun h => by cases h⟩
theorem te494 : TeOk1 Tryz.prog 494 ti494 := ⟨by kernel_rfl, by kernel_rfl, by kernel_rfl, by kernel_rfl, fun _ => rfl, fun h => by cases h⟩
theorem te496 : TeOk1 Tryz.prog 496 ti496 := ⟨by kernel_rfl, by kernel_rfl, by kernel_rfl, by kernel_rfl, fun h => absurd h (by decide), fun _ => by kernel_rfl⟩
theorem te497 : TeOk1 Tryz.prog 497 ti497 := ⟨by kernel_rfl, by kernel_rfl, by kernel_rfl, by kernel_rfl, fun h => absurd h (by decide), fun h => by cases h⟩
theorem te498 : TeOk1 Tryz.prog 498 ti498 := ⟨by kernel_rfl, by kernel_rfl, by kernel_rfl, by kernel_rfl, fun h => absurd h (by decide), fun h => by cases h⟩
theorem te499 : TeOk1 Tryz.prog 499 ti499 := ⟨by kernel_rfl, by kernel_rfl, by kernel_rfl, by kernel_rfl, fun _ => rfl, fun h => by cases h⟩
theorem te501 : TeOk1 Tryz.prog 501 ti501 := ⟨by kernel_rfl, by kernel_rfl, by kernel_rfl, by kernel_rfl, fun h => absurd h (by decide), fun _ => by kernel_rfl⟩
theorem te502 : TeOk1 Tryz.prog 502 ti502 := ⟨by kernel_rfl, by kernel_rfl, by kernel_rfl, by kernel_rfl, fun _ => rfl, fun h => by cases h⟩
theorem te517 : TeOk1 Tryz.prog 517 ti517 := ⟨by kernel_rfl, by kernel_rfl, by kernel_rfl, by kernel_rfl, fun _ => rfl, fun h => by cases h⟩
theorem te519 : TeOk1 Tryz.prog 519 ti519 := ⟨by kernel_rfl, by kernel_rfl, by kernel_rfl, by kernel_rfl, fun h => absurd h (by decide), fun _ => by kernel_rfl⟩
theorem te521 : TeOk1 Tryz.prog 521 ti521 := ⟨by kernel_rfl, by kernel_rfl, by kernel_rfl, by kernel_rfl, fun _ => rfl, fun h => by cases h⟩
theorem te531 : TeOk1 Tryz.prog 531 ti531 := ⟨by kernel_rfl, by kernel_rfl, by kernel_rfl, by kernel_rfl, fun _ => rfl, fun h => by cases h⟩
theorem te532 : TeOk1 Tryz.prog 532 ti532 := ⟨by kernel_rfl, by kernel_rfl, by kernel_rfl, by kernel_rfl, fun _ => rfl, fun h => by cases h⟩
theorem te544 : TeOk1 Tryz.prog 544 ti544 := ⟨by kernel_rfl, by kernel_rfl, by kernel_rfl, by kernel_rfl, fun _ => rfl, fun h => by cases h⟩
theorem te549 : TeOk1 Tryz.prog 549 ti549 := ⟨by kernel_rfl, by kernel_rfl, by kernel_rfl, by kernel_rfl, fun _ => rfl, fun h => by cases h⟩
theorem te550 : TeOk1 Tryz.prog 550 ti550 := ⟨by kernel_rfl, by kernel_rfl, by kernel_rfl, by kernel_rfl, fun _ => rfl, fun h => by cases h⟩
theorem te553 : TeOk1 Tryz.prog 553 ti553 := ⟨by kernel_rfl, by kernel_rfl, by kernel_rfl, by kernel_rfl, fun _ => rfl, fun h => by cases h⟩
theorem teOk : TeOk Tryz.prog te :=
  (teCons te2 (teCons te3 (teCons te4 (teCons te5 (teCons te6 (teCons te8 (teCons te9 (teCons te10 (teCons te11 (teCons te12 (teCons te15 (teCons te16 (teCons te17 (teCons te20 (teCons te22 (teCons te23 (teCons te25 (teCons te27 (teCons te30 (teCons te41 (teCons te42 (teCons te44 (teCons te45 (teCons te46 (teCons te48 (teCons te49 (teCons te50 (teCons te51 (teCons te53 (teCons te54 (teCons te55 (teCons te56 (teCons te58 (teCons te60 (teCons te65 (teCons te68 (teCons te70 (teCons te79 (teCons te80 (teCons te81 (teCons te84 (teCons te86 (teCons te87 (teCons te95 (teCons te100 (teCons te105 (teCons te110 (teCons te115 (teCons te116 (teCons te118 (teCons te119 (teCons te120 (teCons te122 (teCons te123 (teCons te125 (teCons te129 (teCons te132 (teCons te137 (teCons te139 (teCons te141 (teCons te150 (teCons te152 (teCons te157 (teCons te159 (teCons te160 (teCons te162 (teCons te163 (teCons te167 (teCons te168 (teCons te171 (teCons te174 (teCons te178 (teCons te180 (teCons te183 (teCons te188 (teCons te189 (teCons te191 (teCons te193 (teCons te194 (teCons te196 (teCons te198 (teCons te210 (teCons te211 (teCons te213 (teCons te219 (teCons te221 (teCons te222 (teCons te226 (teCons te227 (teCons te229 (teCons te232 (teCons te234 (teCons te238 (teCons te240 (teCons te251 (teCons te260 (teCons te266 (teCons te275 (teCons te277 (teCons te278 (teCons te279 (teCons te281 (teCons te283 (teCons te285 (teCons te287 (teCons te291 (teCons te294 (teCons te296 (teCons te297 (teCons te298 (teCons te301 (teCons te302 (teCons te303 (teCons te310 (teCons te311 (teCons te312 (teCons te313 (teCons te315 (teCons te317 (teCons te318 (teCons te320 (teCons te325 (teCons te331 (teCons te333 (teCons te336 (teCons te338 (teCons te339 (teCons te343 (teCons te345 (teCons te349 (teCons te357 (teCons te359 (teCons te361 (teCons te362 (teCons te365 (teCons te366 (teCons te368 (teCons te370 (teCons te372 (teCons te374 (teCons te376 (teCons te378 (teCons te379 (teCons te382 (teCons te384 (teCons te385 (teCons te391 (teCons te392 (teCons te395 (teCons te399 (teCons te400 (teCons te406 (teCons te409 (teCons te412 (teCons te419 (teCons te421 (teCons te423 (teCons te425 (teCons te435 (teCons te440 (teCons te441 (teCons te443 (teCons te454 (teCons te456 (teCons te457 (teCons te458 (teCons te460 (teCons te463 (teCons te465 (teCons te466 (teCons te471 (teCons te474 (teCons te485 (teCons te488 (teCons te490 (teCons te492 (teCons te493 (teCons te494 (teCons te496 (teCons te497 (teCons te498 (teCons te499 (teCons te501 (teCons te502 (teCons te517 (teCons te519 (teCons te521 (teCons te531 (teCons te532 (teCons te544 (teCons te549 (teCons te550 (teCons te553 teNil)))))))))))))))))))))))))))))))))))))))))))))))))))))))))))))))))))))))))))))))))))))))))))))))))))))))))))))))))))))))))))))))))))))))))))))))))))))))))))))))))))))))))))))))))))))))))))))))))
end Go.Proofs.YtbcoodmafoalmaaGreatDoor

namespace Go.Proofs.YtbcoodmafoalmaaGreatDoor
open Go.Am
def slash (a b : String) : String := (a.push (Char.ofNat 47)) ++ b
def nPlace : String := slash "roving" "engine.place"
def nEnd : String := slash "roving" "engine.end"
def nMore : String := slash "roving" "engine.more"
def nLog : String := slash "roving" "engine.log"
def invT (t : Nat) (name : String) : Option (Nat × Rc) :=
  if t = 338 then (if name = nPlace then some (413, .self) else (if name = nEnd then some (411, .self) else (if name = nMore then some (412, .self) else (if name = nLog then some (410, .fld 0 2) else none))))
  else if t = 339 then (if name = nPlace then some (417, .self) else (if name = nEnd then some (415, .self) else (if name = nMore then some (416, .self) else (if name = nLog then some (410, .fld 0 2) else none))))
  else if t = 331 then (if name = "Unwrap" then some (409, .self) else none)
  else none
def cfg : Conf := { te := te, imm := [333, 296, 370, 490, 229, 519, 456, 460, 213, 277, 359, 125, 501], own := [], inv := invT, ownR := [172, 173, 252, 128, 282], sp := fun _ _ _ => none }
theorem progMix : Tryz.prog.follows .mixedOrders = true := by kernel_rfl
theorem progNum0 : (Tryz.prog.funcs.toList.all fun fn => !(fn.name == "runtime.NumGoroutine")) = true := by kernel_rfl
theorem inv0 : InvOk Tryz.prog 338 nPlace 413 .self := fun w v => by kernel_rfl
theorem inv1 : InvOk Tryz.prog 338 nEnd 411 .self := fun w v => by kernel_rfl
theorem inv2 : InvOk Tryz.prog 338 nMore 412 .self := fun w v => by kernel_rfl
theorem inv3 : InvOk Tryz.prog 338 nLog 410 (.fld 0 2) := fun w v => by kernel_rfl
theorem inv4 : InvOk Tryz.prog 339 nPlace 417 .self := fun w v => by kernel_rfl
theorem inv5 : InvOk Tryz.prog 339 nEnd 415 .self := fun w v => by kernel_rfl
theorem inv6 : InvOk Tryz.prog 339 nMore 416 .self := fun w v => by kernel_rfl
theorem inv7 : InvOk Tryz.prog 339 nLog 410 (.fld 0 2) := fun w v => by kernel_rfl
theorem inv8 : InvOk Tryz.prog 331 "Unwrap" 409 .self := fun w v => by kernel_rfl
theorem invOk : ∀ t name f rc, invT t name = some (f, rc) → InvOk Tryz.prog t name f rc := by
  intro t name f rc h
  unfold invT at h
  split at h
  · rename_i e; subst e
    split at h
    · rename_i e; subst e; cases h; exact inv0
    · split at h
      · rename_i e; subst e; cases h; exact inv1
      · split at h
        · rename_i e; subst e; cases h; exact inv2
        · split at h
          · rename_i e; subst e; cases h; exact inv3
          · cases h
  · split at h
    · rename_i e; subst e
      split at h
      · rename_i e; subst e; cases h; exact inv4
      · split at h
        · rename_i e; subst e; cases h; exact inv5
        · split at h
          · rename_i e; subst e; cases h; exact inv6
          · split at h
            · rename_i e; subst e; cases h; exact inv7
            · cases h
    · split at h
      · rename_i e; subst e
        split at h
        · rename_i e; subst e; cases h; exact inv8
        · cases h
      · cases h
theorem progOk : ProgOk Tryz.prog cfg where
  te := teOk
  inv := invOk
  num := fun f fn h => by
    have h0 := progNum0
    rw [List.all_eq_true] at h0
    have := h0 fn (List.mem_of_getElem? (by rw [Array.getElem?_toList]; exact h))
    simpa using this
  mix := progMix
  sp := fun f az σ r σ' h => by cases h
end Go.Proofs.YtbcoodmafoalmaaGreatDoor
