/- What the functions on sagas of the reference and some of the program's compute, at whatever heap they read. -/
import Derived.Test.YtdefhkboeagkbaaRx2
import Derived.Test.YtdefhkboeagkbaaProg
import Derived.KernelRfl
set_option linter.unusedVariables false
set_option linter.unusedSimpArgs false
set_option linter.unusedSectionVars false
section
namespace Go.Rx

def E : Env := [
  (0, ⟨1, false, (Go.Value.tuple #[]), (Go.TypeDesc.tuple #[])⟩),
  (1, ⟨1, false, Go.Value.nilFunc, (Go.TypeDesc.func #[] #[] false)⟩),
  (2, ⟨1, false, (Go.Value.int Go.IntKind.i64 0), (Go.TypeDesc.int Go.IntKind.i64)⟩),
  (3, ⟨1, false, (Go.Value.int Go.IntKind.i64 0), (Go.TypeDesc.int Go.IntKind.i64)⟩),
  (4, ⟨1, false, (Go.Value.bool false), Go.TypeDesc.bool⟩),
  (5, ⟨1, false, (Go.Value.int Go.IntKind.u8 0), (Go.TypeDesc.int Go.IntKind.u8)⟩),
  (6, ⟨1, false, (Go.Value.int Go.IntKind.u8 0), (Go.TypeDesc.int Go.IntKind.u8)⟩),
  (7, ⟨4, true, (Go.Value.agg #[Go.Value.int Go.IntKind.i64 0, Go.Value.int Go.IntKind.i64 0, Go.Value.bool false, Go.Value.int Go.IntKind.u8 0]), (Go.TypeDesc.struct #[{ name := "x", type := 2, offset := 0, embedded := false, tag := "", pkgPath := "runtime", byteOffset := 0 }, { name := "y", type := 3, offset := 1, embedded := false, tag := "", pkgPath := "runtime", byteOffset := 8 }, { name := "signed", type := 4, offset := 2, embedded := false, tag := "", pkgPath := "runtime", byteOffset := 16 }, { name := "code", type := 6, offset := 3, embedded := false, tag := "", pkgPath := "runtime", byteOffset := 17 }])⟩),
  (8, ⟨4, true, (Go.Value.agg #[Go.Value.int Go.IntKind.i64 0, Go.Value.int Go.IntKind.i64 0, Go.Value.bool false, Go.Value.int Go.IntKind.u8 0]), (Go.TypeDesc.struct #[{ name := "x", type := 2, offset := 0, embedded := false, tag := "", pkgPath := "runtime", byteOffset := 0 }, { name := "y", type := 3, offset := 1, embedded := false, tag := "", pkgPath := "runtime", byteOffset := 8 }, { name := "signed", type := 4, offset := 2, embedded := false, tag := "", pkgPath := "runtime", byteOffset := 16 }, { name := "code", type := 6, offset := 3, embedded := false, tag := "", pkgPath := "runtime", byteOffset := 17 }])⟩),
  (9, ⟨1, false, (Go.Value.string { data := #[] }), Go.TypeDesc.string⟩),
  (10, ⟨1, false, (Go.Value.string { data := #[] }), Go.TypeDesc.string⟩),
  (11, ⟨1, false, (Go.Value.string { data := #[] }), Go.TypeDesc.string⟩),
  (12, ⟨1, false, (Go.Value.int Go.IntKind.u64 0), (Go.TypeDesc.int Go.IntKind.u64)⟩),
  (13, ⟨2, true, (Go.Value.agg #[Go.Value.string { data := #[] }, Go.Value.int Go.IntKind.u64 0]), (Go.TypeDesc.struct #[{ name := "msg", type := 9, offset := 0, embedded := false, tag := "", pkgPath := "runtime", byteOffset := 0 }, { name := "addr", type := 12, offset := 1, embedded := false, tag := "", pkgPath := "runtime", byteOffset := 16 }])⟩),
  (14, ⟨2, true, (Go.Value.agg #[Go.Value.string { data := #[] }, Go.Value.int Go.IntKind.u64 0]), (Go.TypeDesc.struct #[{ name := "msg", type := 9, offset := 0, embedded := false, tag := "", pkgPath := "runtime", byteOffset := 0 }, { name := "addr", type := 12, offset := 1, embedded := false, tag := "", pkgPath := "runtime", byteOffset := 16 }])⟩),
  (15, ⟨1, false, (Go.Value.pointer none), (Go.TypeDesc.pointer 96)⟩),
  (16, ⟨1, false, (Go.Value.pointer none), (Go.TypeDesc.pointer 99)⟩),
  (17, ⟨1, false, (Go.Value.pointer none), (Go.TypeDesc.pointer 108)⟩),
  (18, ⟨1, true, (Go.Value.agg #[Go.Value.pointer none]), (Go.TypeDesc.struct #[{ name := "typ", type := 17, offset := 0, embedded := false, tag := "", pkgPath := "internal/runtime/maps", byteOffset := 0 }])⟩),
  (19, ⟨1, true, (Go.Value.agg #[Go.Value.pointer none]), (Go.TypeDesc.struct #[{ name := "typ", type := 17, offset := 0, embedded := false, tag := "", pkgPath := "internal/runtime/maps", byteOffset := 0 }])⟩),
  (20, ⟨1, false, Go.Value.nilIface, (Go.TypeDesc.interface #[])⟩),
  (21, ⟨1, false, (Go.Value.int Go.IntKind.i32 0), (Go.TypeDesc.int Go.IntKind.i32)⟩),
  (22, ⟨1, false, (Go.Value.slice none 0 0), (Go.TypeDesc.slice 5)⟩),
  (23, ⟨1, false, (Go.Value.slice none 0 0), (Go.TypeDesc.slice 3)⟩),
  (24, ⟨1, false, (Go.Value.slice none 0 0), (Go.TypeDesc.slice 59)⟩),
  (25, ⟨1, false, (Go.Value.tuple #[Go.Value.slice none 0 0, Go.Value.slice none 0 0]), (Go.TypeDesc.tuple #[23, 24])⟩),
  (26, ⟨1, false, Go.Value.nilFunc, (Go.TypeDesc.func #[22] #[23, 24] false)⟩),
  (27, ⟨4, true, (Go.Value.agg #[Go.Value.slice none 0 0, Go.Value.slice none 0 0, Go.Value.int Go.IntKind.i64 0, Go.Value.bool false]), (Go.TypeDesc.struct #[{ name := "Accounts", type := 23, offset := 0, embedded := false, tag := "", pkgPath := "", byteOffset := 0 }, { name := "Moves", type := 24, offset := 1, embedded := false, tag := "", pkgPath := "", byteOffset := 24 }, { name := "Done", type := 3, offset := 2, embedded := false, tag := "", pkgPath := "", byteOffset := 48 }, { name := "Undoing", type := 4, offset := 3, embedded := false, tag := "", pkgPath := "", byteOffset := 56 }])⟩),
  (28, ⟨4, true, (Go.Value.agg #[Go.Value.slice none 0 0, Go.Value.slice none 0 0, Go.Value.int Go.IntKind.i64 0, Go.Value.bool false]), (Go.TypeDesc.struct #[{ name := "Accounts", type := 23, offset := 0, embedded := false, tag := "", pkgPath := "", byteOffset := 0 }, { name := "Moves", type := 24, offset := 1, embedded := false, tag := "", pkgPath := "", byteOffset := 24 }, { name := "Done", type := 3, offset := 2, embedded := false, tag := "", pkgPath := "", byteOffset := 48 }, { name := "Undoing", type := 4, offset := 3, embedded := false, tag := "", pkgPath := "", byteOffset := 56 }])⟩),
  (29, ⟨1, false, (Go.Value.tuple #[Go.Value.agg #[Go.Value.slice none 0 0, Go.Value.slice none 0 0, Go.Value.int Go.IntKind.i64 0, Go.Value.bool false], Go.Value.bool false]), (Go.TypeDesc.tuple #[28, 4])⟩),
  (30, ⟨1, false, Go.Value.nilFunc, (Go.TypeDesc.func #[23, 24] #[28, 4] false)⟩),
  (31, ⟨1, false, Go.Value.nilFunc, (Go.TypeDesc.func #[28, 28] #[4] false)⟩),
  (32, ⟨1, false, (Go.Value.tuple #[Go.Value.agg #[Go.Value.slice none 0 0, Go.Value.slice none 0 0, Go.Value.int Go.IntKind.i64 0, Go.Value.bool false], Go.Value.int Go.IntKind.i64 0, Go.Value.bool false]), (Go.TypeDesc.tuple #[28, 3, 4])⟩),
  (33, ⟨1, false, Go.Value.nilFunc, (Go.TypeDesc.func #[28, 3] #[28, 3, 4] false)⟩),
  (34, ⟨1, false, Go.Value.nilFunc, (Go.TypeDesc.func #[22] #[3] false)⟩),
  (35, ⟨1, false, (Go.Value.tuple #[Go.Value.bool false, Go.Value.bool false, Go.Value.bool false]), (Go.TypeDesc.tuple #[4, 4, 4])⟩),
  (36, ⟨1, false, Go.Value.nilFunc, (Go.TypeDesc.func #[28] #[4, 4, 4] false)⟩),
  (37, ⟨1, false, (Go.Value.tuple #[Go.Value.int Go.IntKind.i64 0, Go.Value.bool false]), (Go.TypeDesc.tuple #[3, 4])⟩),
  (38, ⟨1, false, Go.Value.nilFunc, (Go.TypeDesc.func #[28] #[3, 4] false)⟩),
  (39, ⟨1, false, Go.Value.nilFunc, (Go.TypeDesc.func #[23, 23] #[4] false)⟩),
  (40, ⟨1, false, Go.Value.nilFunc, (Go.TypeDesc.func #[22] #[28] false)⟩),
  (41, ⟨1, false, Go.Value.nilFunc, (Go.TypeDesc.func #[28] #[28, 4] false)⟩),
  (42, ⟨1, false, Go.Value.nilFunc, (Go.TypeDesc.func #[28] #[4] false)⟩),
  (43, ⟨1, false, Go.Value.nilFunc, (Go.TypeDesc.func #[22, 22] #[4] false)⟩),
  (44, ⟨1, false, (Go.Value.slice none 0 0), (Go.TypeDesc.slice 89)⟩),
  (45, ⟨4, true, (Go.Value.agg #[Go.Value.slice none 0 0, Go.Value.slice none 0 0, Go.Value.int Go.IntKind.i64 0, Go.Value.bool false]), (Go.TypeDesc.struct #[{ name := "Accounts", type := 23, offset := 0, embedded := false, tag := "", pkgPath := "", byteOffset := 0 }, { name := "Moves", type := 44, offset := 1, embedded := false, tag := "", pkgPath := "", byteOffset := 24 }, { name := "Done", type := 3, offset := 2, embedded := false, tag := "", pkgPath := "", byteOffset := 48 }, { name := "Undoing", type := 4, offset := 3, embedded := false, tag := "", pkgPath := "", byteOffset := 56 }])⟩),
  (46, ⟨4, true, (Go.Value.agg #[Go.Value.slice none 0 0, Go.Value.slice none 0 0, Go.Value.int Go.IntKind.i64 0, Go.Value.bool false]), (Go.TypeDesc.struct #[{ name := "Accounts", type := 23, offset := 0, embedded := false, tag := "", pkgPath := "", byteOffset := 0 }, { name := "Moves", type := 44, offset := 1, embedded := false, tag := "", pkgPath := "", byteOffset := 24 }, { name := "Done", type := 3, offset := 2, embedded := false, tag := "", pkgPath := "", byteOffset := 48 }, { name := "Undoing", type := 4, offset := 3, embedded := false, tag := "", pkgPath := "", byteOffset := 56 }])⟩),
  (47, ⟨1, false, Go.Value.nilFunc, (Go.TypeDesc.func #[46, 3] #[3] false)⟩),
  (48, ⟨1, false, Go.Value.nilFunc, (Go.TypeDesc.func #[46] #[28] false)⟩),
  (49, ⟨1, false, Go.Value.nilFunc, (Go.TypeDesc.func #[28, 3] #[3] false)⟩),
  (50, ⟨1, false, Go.Value.nilFunc, (Go.TypeDesc.func #[46] #[4] false)⟩),
  (51, ⟨1, false, Go.Value.nilFunc, (Go.TypeDesc.func #[46, 3] #[4] false)⟩),
  (52, ⟨1, false, (Go.Value.pointer none), (Go.TypeDesc.pointer 55)⟩),
  (53, ⟨1, false, (Go.Value.int Go.IntKind.u64 0), (Go.TypeDesc.int Go.IntKind.u64)⟩),
  (54, ⟨3, true, (Go.Value.agg #[Go.Value.slice none 0 0, Go.Value.int Go.IntKind.i64 0, Go.Value.int Go.IntKind.u64 0]), (Go.TypeDesc.struct #[{ name := "code", type := 22, offset := 0, embedded := false, tag := "", pkgPath := "loop.example/g00269/spec", byteOffset := 0 }, { name := "at", type := 3, offset := 1, embedded := false, tag := "", pkgPath := "loop.example/g00269/spec", byteOffset := 24 }, { name := "seed", type := 53, offset := 2, embedded := false, tag := "", pkgPath := "loop.example/g00269/spec", byteOffset := 32 }])⟩),
  (55, ⟨3, true, (Go.Value.agg #[Go.Value.slice none 0 0, Go.Value.int Go.IntKind.i64 0, Go.Value.int Go.IntKind.u64 0]), (Go.TypeDesc.struct #[{ name := "code", type := 22, offset := 0, embedded := false, tag := "", pkgPath := "loop.example/g00269/spec", byteOffset := 0 }, { name := "at", type := 3, offset := 1, embedded := false, tag := "", pkgPath := "loop.example/g00269/spec", byteOffset := 24 }, { name := "seed", type := 53, offset := 2, embedded := false, tag := "", pkgPath := "loop.example/g00269/spec", byteOffset := 32 }])⟩),
  (56, ⟨1, false, Go.Value.nilFunc, (Go.TypeDesc.func #[] #[28] false)⟩),
  (57, ⟨1, false, Go.Value.nilFunc, (Go.TypeDesc.func #[3] #[4] false)⟩),
  (58, ⟨3, true, (Go.Value.agg #[Go.Value.int Go.IntKind.i64 0, Go.Value.int Go.IntKind.i64 0, Go.Value.int Go.IntKind.i64 0]), (Go.TypeDesc.struct #[{ name := "From", type := 3, offset := 0, embedded := false, tag := "", pkgPath := "", byteOffset := 0 }, { name := "To", type := 3, offset := 1, embedded := false, tag := "", pkgPath := "", byteOffset := 8 }, { name := "Many", type := 3, offset := 2, embedded := false, tag := "", pkgPath := "", byteOffset := 16 }])⟩),
  (59, ⟨3, true, (Go.Value.agg #[Go.Value.int Go.IntKind.i64 0, Go.Value.int Go.IntKind.i64 0, Go.Value.int Go.IntKind.i64 0]), (Go.TypeDesc.struct #[{ name := "From", type := 3, offset := 0, embedded := false, tag := "", pkgPath := "", byteOffset := 0 }, { name := "To", type := 3, offset := 1, embedded := false, tag := "", pkgPath := "", byteOffset := 8 }, { name := "Many", type := 3, offset := 2, embedded := false, tag := "", pkgPath := "", byteOffset := 16 }])⟩),
  (60, ⟨1, false, Go.Value.nilFunc, (Go.TypeDesc.func #[28] #[28] false)⟩),
  (61, ⟨1, false, Go.Value.nilFunc, (Go.TypeDesc.func #[28, 64] #[28, 4] false)⟩),
  (62, ⟨1, false, (Go.Value.pointer none), (Go.TypeDesc.pointer 28)⟩),
  (63, ⟨1, false, Go.Value.nilFunc, (Go.TypeDesc.func #[] #[4] false)⟩),
  (64, ⟨1, false, Go.Value.nilFunc, (Go.TypeDesc.func #[62] #[4] false)⟩),
  (65, ⟨1, false, Go.Value.nilFunc, (Go.TypeDesc.func #[24, 67] #[4] false)⟩),
  (66, ⟨1, false, Go.Value.nilFunc, (Go.TypeDesc.func #[59, 3] #[4] false)⟩),
  (67, ⟨1, false, Go.Value.nilFunc, (Go.TypeDesc.func #[59] #[4] false)⟩),
  (68, ⟨1, false, Go.Value.nilFunc, (Go.TypeDesc.func #[23] #[4] false)⟩),
  (69, ⟨1, false, Go.Value.nilFunc, (Go.TypeDesc.func #[3, 3, 3] #[4] false)⟩),
  (70, ⟨1, false, Go.Value.nilFunc, (Go.TypeDesc.func #[87] #[] false)⟩),
  (71, ⟨1, false, Go.Value.nilFunc, (Go.TypeDesc.func #[87] #[] false)⟩),
  (72, ⟨1, false, Go.Value.nilFunc, (Go.TypeDesc.func #[24] #[71] false)⟩),
  (73, ⟨1, false, (Go.Value.tuple #[Go.Value.slice none 0 0, Go.Value.bool false]), (Go.TypeDesc.tuple #[23, 4])⟩),
  (74, ⟨1, false, Go.Value.nilFunc, (Go.TypeDesc.func #[23, 59] #[23, 4] false)⟩),
  (75, ⟨1, false, Go.Value.nilFunc, (Go.TypeDesc.func #[59] #[59] false)⟩),
  (76, ⟨1, false, Go.Value.nilFunc, (Go.TypeDesc.func #[23, 3] #[3] false)⟩),
  (77, ⟨1, false, Go.Value.nilFunc, (Go.TypeDesc.func #[44, 3] #[3] false)⟩),
  (78, ⟨1, false, Go.Value.nilFunc, (Go.TypeDesc.func #[23] #[23] false)⟩),
  (79, ⟨1, false, Go.Value.nilFunc, (Go.TypeDesc.func #[44] #[24] false)⟩),
  (80, ⟨1, false, Go.Value.nilFunc, (Go.TypeDesc.func #[24, 24] #[4] false)⟩),
  (81, ⟨1, false, Go.Value.nilFunc, (Go.TypeDesc.func #[24, 3] #[3] false)⟩),
  (82, ⟨1, false, Go.Value.nilFunc, (Go.TypeDesc.func #[3] #[3] false)⟩),
  (83, ⟨1, false, Go.Value.nilFunc, (Go.TypeDesc.func #[23] #[3] false)⟩),
  (84, ⟨1, false, Go.Value.nilFunc, (Go.TypeDesc.func #[24] #[24] false)⟩),
  (85, ⟨1, false, Go.Value.nilFunc, (Go.TypeDesc.func #[24, 67] #[3] false)⟩),
  (86, ⟨1, false, Go.Value.nilFunc, (Go.TypeDesc.func #[23, 57] #[4] false)⟩),
  (87, ⟨1, false, Go.Value.nilFunc, (Go.TypeDesc.func #[3, 59] #[4] false)⟩),
  (88, ⟨1, false, Go.Value.nilFunc, (Go.TypeDesc.func #[89] #[59] false)⟩),
  (89, ⟨3, true, (Go.Value.agg #[Go.Value.int Go.IntKind.i64 0, Go.Value.int Go.IntKind.i64 0, Go.Value.int Go.IntKind.i64 0]), (Go.TypeDesc.struct #[{ name := "From", type := 3, offset := 0, embedded := false, tag := "", pkgPath := "", byteOffset := 0 }, { name := "To", type := 3, offset := 1, embedded := false, tag := "", pkgPath := "", byteOffset := 8 }, { name := "Many", type := 3, offset := 2, embedded := false, tag := "", pkgPath := "", byteOffset := 16 }])⟩),
  (90, ⟨1, false, Go.Value.nilFunc, (Go.TypeDesc.func #[59, 59] #[4] false)⟩),
  (91, ⟨1, false, Go.Value.nilFunc, (Go.TypeDesc.func #[] #[3] false)⟩),
  (92, ⟨1, false, Go.Value.nilFunc, (Go.TypeDesc.func #[23, 57] #[3] false)⟩),
  (93, ⟨1, false, (Go.Value.int Go.IntKind.u64 0), (Go.TypeDesc.int Go.IntKind.u64)⟩),
  (94, ⟨1, false, Go.Value.nilFunc, (Go.TypeDesc.func #[] #[9] false)⟩),
  (95, ⟨4, true, (Go.Value.agg #[Go.Value.pointer none, Go.Value.pointer none, Go.Value.pointer none, Go.Value.string { data := #[] }]), (Go.TypeDesc.struct #[{ name := "_interface", type := 17, offset := 0, embedded := false, tag := "", pkgPath := "runtime", byteOffset := 0 }, { name := "concrete", type := 17, offset := 1, embedded := false, tag := "", pkgPath := "runtime", byteOffset := 8 }, { name := "asserted", type := 17, offset := 2, embedded := false, tag := "", pkgPath := "runtime", byteOffset := 16 }, { name := "missingMethod", type := 9, offset := 3, embedded := false, tag := "", pkgPath := "runtime", byteOffset := 24 }])⟩),
  (96, ⟨4, true, (Go.Value.agg #[Go.Value.pointer none, Go.Value.pointer none, Go.Value.pointer none, Go.Value.string { data := #[] }]), (Go.TypeDesc.struct #[{ name := "_interface", type := 17, offset := 0, embedded := false, tag := "", pkgPath := "runtime", byteOffset := 0 }, { name := "concrete", type := 17, offset := 1, embedded := false, tag := "", pkgPath := "runtime", byteOffset := 8 }, { name := "asserted", type := 17, offset := 2, embedded := false, tag := "", pkgPath := "runtime", byteOffset := 16 }, { name := "missingMethod", type := 9, offset := 3, embedded := false, tag := "", pkgPath := "runtime", byteOffset := 24 }])⟩),
  (97, ⟨0, true, (Go.Value.agg #[]), (Go.TypeDesc.array 0 16)⟩),
  (98, ⟨0, true, (Go.Value.agg #[]), (Go.TypeDesc.struct #[{ name := "_", type := 97, offset := 0, embedded := false, tag := "", pkgPath := "runtime", byteOffset := 0 }])⟩),
  (99, ⟨0, true, (Go.Value.agg #[]), (Go.TypeDesc.struct #[{ name := "_", type := 97, offset := 0, embedded := false, tag := "", pkgPath := "runtime", byteOffset := 0 }])⟩),
  (100, ⟨1, false, (Go.Value.int Go.IntKind.u32 0), (Go.TypeDesc.int Go.IntKind.u32)⟩),
  (101, ⟨1, false, (Go.Value.int Go.IntKind.u8 0), (Go.TypeDesc.int Go.IntKind.u8)⟩),
  (102, ⟨1, false, (Go.Value.int Go.IntKind.u8 0), (Go.TypeDesc.int Go.IntKind.u8)⟩),
  (103, ⟨1, false, Go.Value.nilFunc, (Go.TypeDesc.func #[109, 109] #[4] false)⟩),
  (104, ⟨1, false, (Go.Value.pointer none), (Go.TypeDesc.pointer 5)⟩),
  (105, ⟨1, false, (Go.Value.int Go.IntKind.i32 0), (Go.TypeDesc.int Go.IntKind.i32)⟩),
  (106, ⟨1, false, (Go.Value.int Go.IntKind.i32 0), (Go.TypeDesc.int Go.IntKind.i32)⟩),
  (107, ⟨11, true, (Go.Value.agg #[Go.Value.int Go.IntKind.u64 0, Go.Value.int Go.IntKind.u64 0, Go.Value.int Go.IntKind.u32 0, Go.Value.int Go.IntKind.u8 0, Go.Value.int Go.IntKind.u8 0, Go.Value.int Go.IntKind.u8 0, Go.Value.int Go.IntKind.u8 0, Go.Value.nilFunc, Go.Value.pointer none, Go.Value.int Go.IntKind.i32 0, Go.Value.int Go.IntKind.i32 0]), (Go.TypeDesc.struct #[{ name := "Size_", type := 12, offset := 0, embedded := false, tag := "", pkgPath := "", byteOffset := 0 }, { name := "PtrBytes", type := 12, offset := 1, embedded := false, tag := "", pkgPath := "", byteOffset := 8 }, { name := "Hash", type := 100, offset := 2, embedded := false, tag := "", pkgPath := "", byteOffset := 16 }, { name := "TFlag", type := 101, offset := 3, embedded := false, tag := "", pkgPath := "", byteOffset := 20 }, { name := "Align_", type := 5, offset := 4, embedded := false, tag := "", pkgPath := "", byteOffset := 21 }, { name := "FieldAlign_", type := 5, offset := 5, embedded := false, tag := "", pkgPath := "", byteOffset := 22 }, { name := "Kind_", type := 102, offset := 6, embedded := false, tag := "", pkgPath := "", byteOffset := 23 }, { name := "Equal", type := 103, offset := 7, embedded := false, tag := "", pkgPath := "", byteOffset := 24 }, { name := "GCData", type := 104, offset := 8, embedded := false, tag := "", pkgPath := "", byteOffset := 32 }, { name := "Str", type := 105, offset := 9, embedded := false, tag := "", pkgPath := "", byteOffset := 40 }, { name := "PtrToThis", type := 106, offset := 10, embedded := false, tag := "", pkgPath := "", byteOffset := 44 }])⟩),
  (108, ⟨11, true, (Go.Value.agg #[Go.Value.int Go.IntKind.u64 0, Go.Value.int Go.IntKind.u64 0, Go.Value.int Go.IntKind.u32 0, Go.Value.int Go.IntKind.u8 0, Go.Value.int Go.IntKind.u8 0, Go.Value.int Go.IntKind.u8 0, Go.Value.int Go.IntKind.u8 0, Go.Value.nilFunc, Go.Value.pointer none, Go.Value.int Go.IntKind.i32 0, Go.Value.int Go.IntKind.i32 0]), (Go.TypeDesc.struct #[{ name := "Size_", type := 12, offset := 0, embedded := false, tag := "", pkgPath := "", byteOffset := 0 }, { name := "PtrBytes", type := 12, offset := 1, embedded := false, tag := "", pkgPath := "", byteOffset := 8 }, { name := "Hash", type := 100, offset := 2, embedded := false, tag := "", pkgPath := "", byteOffset := 16 }, { name := "TFlag", type := 101, offset := 3, embedded := false, tag := "", pkgPath := "", byteOffset := 20 }, { name := "Align_", type := 5, offset := 4, embedded := false, tag := "", pkgPath := "", byteOffset := 21 }, { name := "FieldAlign_", type := 5, offset := 5, embedded := false, tag := "", pkgPath := "", byteOffset := 22 }, { name := "Kind_", type := 102, offset := 6, embedded := false, tag := "", pkgPath := "", byteOffset := 23 }, { name := "Equal", type := 103, offset := 7, embedded := false, tag := "", pkgPath := "", byteOffset := 24 }, { name := "GCData", type := 104, offset := 8, embedded := false, tag := "", pkgPath := "", byteOffset := 32 }, { name := "Str", type := 105, offset := 9, embedded := false, tag := "", pkgPath := "", byteOffset := 40 }, { name := "PtrToThis", type := 106, offset := 10, embedded := false, tag := "", pkgPath := "", byteOffset := 44 }])⟩),
  (109, ⟨1, false, (Go.Value.pointer none), Go.TypeDesc.unsafePointer⟩)]
set_option maxRecDepth 100000 in
theorem E_ok : EnvOk Go.Proofs.Try.prog E :=
  ⟨⟨Go.Proofs.Try.sizeOf0, Go.Proofs.Try.isAgg0, Go.Proofs.Try.zeroValue0, Go.Proofs.Try.underlying0⟩,
  ⟨Go.Proofs.Try.sizeOf1, Go.Proofs.Try.isAgg1, Go.Proofs.Try.zeroValue1, Go.Proofs.Try.underlying1⟩,
  ⟨Go.Proofs.Try.sizeOf2, Go.Proofs.Try.isAgg2, Go.Proofs.Try.zeroValue2, Go.Proofs.Try.underlying2⟩,
  ⟨Go.Proofs.Try.sizeOf3, Go.Proofs.Try.isAgg3, Go.Proofs.Try.zeroValue3, Go.Proofs.Try.underlying3⟩,
  ⟨Go.Proofs.Try.sizeOf4, Go.Proofs.Try.isAgg4, Go.Proofs.Try.zeroValue4, Go.Proofs.Try.underlying4⟩,
  ⟨Go.Proofs.Try.sizeOf5, Go.Proofs.Try.isAgg5, Go.Proofs.Try.zeroValue5, Go.Proofs.Try.underlying5⟩,
  ⟨Go.Proofs.Try.sizeOf6, Go.Proofs.Try.isAgg6, Go.Proofs.Try.zeroValue6, Go.Proofs.Try.underlying6⟩,
  ⟨Go.Proofs.Try.sizeOf7, Go.Proofs.Try.isAgg7, Go.Proofs.Try.zeroValue7, Go.Proofs.Try.underlying7⟩,
  ⟨Go.Proofs.Try.sizeOf8, Go.Proofs.Try.isAgg8, Go.Proofs.Try.zeroValue8, Go.Proofs.Try.underlying8⟩,
  ⟨Go.Proofs.Try.sizeOf9, Go.Proofs.Try.isAgg9, Go.Proofs.Try.zeroValue9, Go.Proofs.Try.underlying9⟩,
  ⟨Go.Proofs.Try.sizeOf10, Go.Proofs.Try.isAgg10, Go.Proofs.Try.zeroValue10, Go.Proofs.Try.underlying10⟩,
  ⟨Go.Proofs.Try.sizeOf11, Go.Proofs.Try.isAgg11, Go.Proofs.Try.zeroValue11, Go.Proofs.Try.underlying11⟩,
  ⟨Go.Proofs.Try.sizeOf12, Go.Proofs.Try.isAgg12, Go.Proofs.Try.zeroValue12, Go.Proofs.Try.underlying12⟩,
  ⟨Go.Proofs.Try.sizeOf13, Go.Proofs.Try.isAgg13, Go.Proofs.Try.zeroValue13, Go.Proofs.Try.underlying13⟩,
  ⟨Go.Proofs.Try.sizeOf14, Go.Proofs.Try.isAgg14, Go.Proofs.Try.zeroValue14, Go.Proofs.Try.underlying14⟩,
  ⟨Go.Proofs.Try.sizeOf15, Go.Proofs.Try.isAgg15, Go.Proofs.Try.zeroValue15, Go.Proofs.Try.underlying15⟩,
  ⟨Go.Proofs.Try.sizeOf16, Go.Proofs.Try.isAgg16, Go.Proofs.Try.zeroValue16, Go.Proofs.Try.underlying16⟩,
  ⟨Go.Proofs.Try.sizeOf17, Go.Proofs.Try.isAgg17, Go.Proofs.Try.zeroValue17, Go.Proofs.Try.underlying17⟩,
  ⟨Go.Proofs.Try.sizeOf18, Go.Proofs.Try.isAgg18, Go.Proofs.Try.zeroValue18, Go.Proofs.Try.underlying18⟩,
  ⟨Go.Proofs.Try.sizeOf19, Go.Proofs.Try.isAgg19, Go.Proofs.Try.zeroValue19, Go.Proofs.Try.underlying19⟩,
  ⟨Go.Proofs.Try.sizeOf20, Go.Proofs.Try.isAgg20, Go.Proofs.Try.zeroValue20, Go.Proofs.Try.underlying20⟩,
  ⟨Go.Proofs.Try.sizeOf21, Go.Proofs.Try.isAgg21, Go.Proofs.Try.zeroValue21, Go.Proofs.Try.underlying21⟩,
  ⟨Go.Proofs.Try.sizeOf22, Go.Proofs.Try.isAgg22, Go.Proofs.Try.zeroValue22, Go.Proofs.Try.underlying22⟩,
  ⟨Go.Proofs.Try.sizeOf23, Go.Proofs.Try.isAgg23, Go.Proofs.Try.zeroValue23, Go.Proofs.Try.underlying23⟩,
  ⟨Go.Proofs.Try.sizeOf24, Go.Proofs.Try.isAgg24, Go.Proofs.Try.zeroValue24, Go.Proofs.Try.underlying24⟩,
  ⟨Go.Proofs.Try.sizeOf25, Go.Proofs.Try.isAgg25, Go.Proofs.Try.zeroValue25, Go.Proofs.Try.underlying25⟩,
  ⟨Go.Proofs.Try.sizeOf26, Go.Proofs.Try.isAgg26, Go.Proofs.Try.zeroValue26, Go.Proofs.Try.underlying26⟩,
  ⟨Go.Proofs.Try.sizeOf27, Go.Proofs.Try.isAgg27, Go.Proofs.Try.zeroValue27, Go.Proofs.Try.underlying27⟩,
  ⟨Go.Proofs.Try.sizeOf28, Go.Proofs.Try.isAgg28, Go.Proofs.Try.zeroValue28, Go.Proofs.Try.underlying28⟩,
  ⟨Go.Proofs.Try.sizeOf29, Go.Proofs.Try.isAgg29, Go.Proofs.Try.zeroValue29, Go.Proofs.Try.underlying29⟩,
  ⟨Go.Proofs.Try.sizeOf30, Go.Proofs.Try.isAgg30, Go.Proofs.Try.zeroValue30, Go.Proofs.Try.underlying30⟩,
  ⟨Go.Proofs.Try.sizeOf31, Go.Proofs.Try.isAgg31, Go.Proofs.Try.zeroValue31, Go.Proofs.Try.underlying31⟩,
  ⟨Go.Proofs.Try.sizeOf32, Go.Proofs.Try.isAgg32, Go.Proofs.Try.zeroValue32, Go.Proofs.Try.underlying32⟩,
  ⟨Go.Proofs.Try.sizeOf33, Go.Proofs.Try.isAgg33, Go.Proofs.Try.zeroValue33, Go.Proofs.Try.underlying33⟩,
  ⟨Go.Proofs.Try.sizeOf34, Go.Proofs.Try.isAgg34, Go.Proofs.Try.zeroValue34, Go.Proofs.Try.underlying34⟩,
  ⟨Go.Proofs.Try.sizeOf35, Go.Proofs.Try.isAgg35, Go.Proofs.Try.zeroValue35, Go.Proofs.Try.underlying35⟩,
  ⟨Go.Proofs.Try.sizeOf36, Go.Proofs.Try.isAgg36, Go.Proofs.Try.zeroValue36, Go.Proofs.Try.underlying36⟩,
  ⟨Go.Proofs.Try.sizeOf37, Go.Proofs.Try.isAgg37, Go.Proofs.Try.zeroValue37, Go.Proofs.Try.underlying37⟩,
  ⟨Go.Proofs.Try.sizeOf38, Go.Proofs.Try.isAgg38, Go.Proofs.Try.zeroValue38, Go.Proofs.Try.underlying38⟩,
  ⟨Go.Proofs.Try.sizeOf39, Go.Proofs.Try.isAgg39, Go.Proofs.Try.zeroValue39, Go.Proofs.Try.underlying39⟩,
  ⟨Go.Proofs.Try.sizeOf40, Go.Proofs.Try.isAgg40, Go.Proofs.Try.zeroValue40, Go.Proofs.Try.underlying40⟩,
  ⟨Go.Proofs.Try.sizeOf41, Go.Proofs.Try.isAgg41, Go.Proofs.Try.zeroValue41, Go.Proofs.Try.underlying41⟩,
  ⟨Go.Proofs.Try.sizeOf42, Go.Proofs.Try.isAgg42, Go.Proofs.Try.zeroValue42, Go.Proofs.Try.underlying42⟩,
  ⟨Go.Proofs.Try.sizeOf43, Go.Proofs.Try.isAgg43, Go.Proofs.Try.zeroValue43, Go.Proofs.Try.underlying43⟩,
  ⟨Go.Proofs.Try.sizeOf44, Go.Proofs.Try.isAgg44, Go.Proofs.Try.zeroValue44, Go.Proofs.Try.underlying44⟩,
  ⟨Go.Proofs.Try.sizeOf45, Go.Proofs.Try.isAgg45, Go.Proofs.Try.zeroValue45, Go.Proofs.Try.underlying45⟩,
  ⟨Go.Proofs.Try.sizeOf46, Go.Proofs.Try.isAgg46, Go.Proofs.Try.zeroValue46, Go.Proofs.Try.underlying46⟩,
  ⟨Go.Proofs.Try.sizeOf47, Go.Proofs.Try.isAgg47, Go.Proofs.Try.zeroValue47, Go.Proofs.Try.underlying47⟩,
  ⟨Go.Proofs.Try.sizeOf48, Go.Proofs.Try.isAgg48, Go.Proofs.Try.zeroValue48, Go.Proofs.Try.underlying48⟩,
  ⟨Go.Proofs.Try.sizeOf49, Go.Proofs.Try.isAgg49, Go.Proofs.Try.zeroValue49, Go.Proofs.Try.underlying49⟩,
  ⟨Go.Proofs.Try.sizeOf50, Go.Proofs.Try.isAgg50, Go.Proofs.Try.zeroValue50, Go.Proofs.Try.underlying50⟩,
  ⟨Go.Proofs.Try.sizeOf51, Go.Proofs.Try.isAgg51, Go.Proofs.Try.zeroValue51, Go.Proofs.Try.underlying51⟩,
  ⟨Go.Proofs.Try.sizeOf52, Go.Proofs.Try.isAgg52, Go.Proofs.Try.zeroValue52, Go.Proofs.Try.underlying52⟩,
  ⟨Go.Proofs.Try.sizeOf53, Go.Proofs.Try.isAgg53, Go.Proofs.Try.zeroValue53, Go.Proofs.Try.underlying53⟩,
  ⟨Go.Proofs.Try.sizeOf54, Go.Proofs.Try.isAgg54, Go.Proofs.Try.zeroValue54, Go.Proofs.Try.underlying54⟩,
  ⟨Go.Proofs.Try.sizeOf55, Go.Proofs.Try.isAgg55, Go.Proofs.Try.zeroValue55, Go.Proofs.Try.underlying55⟩,
  ⟨Go.Proofs.Try.sizeOf56, Go.Proofs.Try.isAgg56, Go.Proofs.Try.zeroValue56, Go.Proofs.Try.underlying56⟩,
  ⟨Go.Proofs.Try.sizeOf57, Go.Proofs.Try.isAgg57, Go.Proofs.Try.zeroValue57, Go.Proofs.Try.underlying57⟩,
  ⟨Go.Proofs.Try.sizeOf58, Go.Proofs.Try.isAgg58, Go.Proofs.Try.zeroValue58, Go.Proofs.Try.underlying58⟩,
  ⟨Go.Proofs.Try.sizeOf59, Go.Proofs.Try.isAgg59, Go.Proofs.Try.zeroValue59, Go.Proofs.Try.underlying59⟩,
  ⟨Go.Proofs.Try.sizeOf60, Go.Proofs.Try.isAgg60, Go.Proofs.Try.zeroValue60, Go.Proofs.Try.underlying60⟩,
  ⟨Go.Proofs.Try.sizeOf61, Go.Proofs.Try.isAgg61, Go.Proofs.Try.zeroValue61, Go.Proofs.Try.underlying61⟩,
  ⟨Go.Proofs.Try.sizeOf62, Go.Proofs.Try.isAgg62, Go.Proofs.Try.zeroValue62, Go.Proofs.Try.underlying62⟩,
  ⟨Go.Proofs.Try.sizeOf63, Go.Proofs.Try.isAgg63, Go.Proofs.Try.zeroValue63, Go.Proofs.Try.underlying63⟩,
  ⟨Go.Proofs.Try.sizeOf64, Go.Proofs.Try.isAgg64, Go.Proofs.Try.zeroValue64, Go.Proofs.Try.underlying64⟩,
  ⟨Go.Proofs.Try.sizeOf65, Go.Proofs.Try.isAgg65, Go.Proofs.Try.zeroValue65, Go.Proofs.Try.underlying65⟩,
  ⟨Go.Proofs.Try.sizeOf66, Go.Proofs.Try.isAgg66, Go.Proofs.Try.zeroValue66, Go.Proofs.Try.underlying66⟩,
  ⟨Go.Proofs.Try.sizeOf67, Go.Proofs.Try.isAgg67, Go.Proofs.Try.zeroValue67, Go.Proofs.Try.underlying67⟩,
  ⟨Go.Proofs.Try.sizeOf68, Go.Proofs.Try.isAgg68, Go.Proofs.Try.zeroValue68, Go.Proofs.Try.underlying68⟩,
  ⟨Go.Proofs.Try.sizeOf69, Go.Proofs.Try.isAgg69, Go.Proofs.Try.zeroValue69, Go.Proofs.Try.underlying69⟩,
  ⟨Go.Proofs.Try.sizeOf70, Go.Proofs.Try.isAgg70, Go.Proofs.Try.zeroValue70, Go.Proofs.Try.underlying70⟩,
  ⟨Go.Proofs.Try.sizeOf71, Go.Proofs.Try.isAgg71, Go.Proofs.Try.zeroValue71, Go.Proofs.Try.underlying71⟩,
  ⟨Go.Proofs.Try.sizeOf72, Go.Proofs.Try.isAgg72, Go.Proofs.Try.zeroValue72, Go.Proofs.Try.underlying72⟩,
  ⟨Go.Proofs.Try.sizeOf73, Go.Proofs.Try.isAgg73, Go.Proofs.Try.zeroValue73, Go.Proofs.Try.underlying73⟩,
  ⟨Go.Proofs.Try.sizeOf74, Go.Proofs.Try.isAgg74, Go.Proofs.Try.zeroValue74, Go.Proofs.Try.underlying74⟩,
  ⟨Go.Proofs.Try.sizeOf75, Go.Proofs.Try.isAgg75, Go.Proofs.Try.zeroValue75, Go.Proofs.Try.underlying75⟩,
  ⟨Go.Proofs.Try.sizeOf76, Go.Proofs.Try.isAgg76, Go.Proofs.Try.zeroValue76, Go.Proofs.Try.underlying76⟩,
  ⟨Go.Proofs.Try.sizeOf77, Go.Proofs.Try.isAgg77, Go.Proofs.Try.zeroValue77, Go.Proofs.Try.underlying77⟩,
  ⟨Go.Proofs.Try.sizeOf78, Go.Proofs.Try.isAgg78, Go.Proofs.Try.zeroValue78, Go.Proofs.Try.underlying78⟩,
  ⟨Go.Proofs.Try.sizeOf79, Go.Proofs.Try.isAgg79, Go.Proofs.Try.zeroValue79, Go.Proofs.Try.underlying79⟩,
  ⟨Go.Proofs.Try.sizeOf80, Go.Proofs.Try.isAgg80, Go.Proofs.Try.zeroValue80, Go.Proofs.Try.underlying80⟩,
  ⟨Go.Proofs.Try.sizeOf81, Go.Proofs.Try.isAgg81, Go.Proofs.Try.zeroValue81, Go.Proofs.Try.underlying81⟩,
  ⟨Go.Proofs.Try.sizeOf82, Go.Proofs.Try.isAgg82, Go.Proofs.Try.zeroValue82, Go.Proofs.Try.underlying82⟩,
  ⟨Go.Proofs.Try.sizeOf83, Go.Proofs.Try.isAgg83, Go.Proofs.Try.zeroValue83, Go.Proofs.Try.underlying83⟩,
  ⟨Go.Proofs.Try.sizeOf84, Go.Proofs.Try.isAgg84, Go.Proofs.Try.zeroValue84, Go.Proofs.Try.underlying84⟩,
  ⟨Go.Proofs.Try.sizeOf85, Go.Proofs.Try.isAgg85, Go.Proofs.Try.zeroValue85, Go.Proofs.Try.underlying85⟩,
  ⟨Go.Proofs.Try.sizeOf86, Go.Proofs.Try.isAgg86, Go.Proofs.Try.zeroValue86, Go.Proofs.Try.underlying86⟩,
  ⟨Go.Proofs.Try.sizeOf87, Go.Proofs.Try.isAgg87, Go.Proofs.Try.zeroValue87, Go.Proofs.Try.underlying87⟩,
  ⟨Go.Proofs.Try.sizeOf88, Go.Proofs.Try.isAgg88, Go.Proofs.Try.zeroValue88, Go.Proofs.Try.underlying88⟩,
  ⟨Go.Proofs.Try.sizeOf89, Go.Proofs.Try.isAgg89, Go.Proofs.Try.zeroValue89, Go.Proofs.Try.underlying89⟩,
  ⟨Go.Proofs.Try.sizeOf90, Go.Proofs.Try.isAgg90, Go.Proofs.Try.zeroValue90, Go.Proofs.Try.underlying90⟩,
  ⟨Go.Proofs.Try.sizeOf91, Go.Proofs.Try.isAgg91, Go.Proofs.Try.zeroValue91, Go.Proofs.Try.underlying91⟩,
  ⟨Go.Proofs.Try.sizeOf92, Go.Proofs.Try.isAgg92, Go.Proofs.Try.zeroValue92, Go.Proofs.Try.underlying92⟩,
  ⟨Go.Proofs.Try.sizeOf93, Go.Proofs.Try.isAgg93, Go.Proofs.Try.zeroValue93, Go.Proofs.Try.underlying93⟩,
  ⟨Go.Proofs.Try.sizeOf94, Go.Proofs.Try.isAgg94, Go.Proofs.Try.zeroValue94, Go.Proofs.Try.underlying94⟩,
  ⟨Go.Proofs.Try.sizeOf95, Go.Proofs.Try.isAgg95, Go.Proofs.Try.zeroValue95, Go.Proofs.Try.underlying95⟩,
  ⟨Go.Proofs.Try.sizeOf96, Go.Proofs.Try.isAgg96, Go.Proofs.Try.zeroValue96, Go.Proofs.Try.underlying96⟩,
  ⟨Go.Proofs.Try.sizeOf97, Go.Proofs.Try.isAgg97, Go.Proofs.Try.zeroValue97, Go.Proofs.Try.underlying97⟩,
  ⟨Go.Proofs.Try.sizeOf98, Go.Proofs.Try.isAgg98, Go.Proofs.Try.zeroValue98, Go.Proofs.Try.underlying98⟩,
  ⟨Go.Proofs.Try.sizeOf99, Go.Proofs.Try.isAgg99, Go.Proofs.Try.zeroValue99, Go.Proofs.Try.underlying99⟩,
  ⟨Go.Proofs.Try.sizeOf100, Go.Proofs.Try.isAgg100, Go.Proofs.Try.zeroValue100, Go.Proofs.Try.underlying100⟩,
  ⟨Go.Proofs.Try.sizeOf101, Go.Proofs.Try.isAgg101, Go.Proofs.Try.zeroValue101, Go.Proofs.Try.underlying101⟩,
  ⟨Go.Proofs.Try.sizeOf102, Go.Proofs.Try.isAgg102, Go.Proofs.Try.zeroValue102, Go.Proofs.Try.underlying102⟩,
  ⟨Go.Proofs.Try.sizeOf103, Go.Proofs.Try.isAgg103, Go.Proofs.Try.zeroValue103, Go.Proofs.Try.underlying103⟩,
  ⟨Go.Proofs.Try.sizeOf104, Go.Proofs.Try.isAgg104, Go.Proofs.Try.zeroValue104, Go.Proofs.Try.underlying104⟩,
  ⟨Go.Proofs.Try.sizeOf105, Go.Proofs.Try.isAgg105, Go.Proofs.Try.zeroValue105, Go.Proofs.Try.underlying105⟩,
  ⟨Go.Proofs.Try.sizeOf106, Go.Proofs.Try.isAgg106, Go.Proofs.Try.zeroValue106, Go.Proofs.Try.underlying106⟩,
  ⟨Go.Proofs.Try.sizeOf107, Go.Proofs.Try.isAgg107, Go.Proofs.Try.zeroValue107, Go.Proofs.Try.underlying107⟩,
  ⟨Go.Proofs.Try.sizeOf108, Go.Proofs.Try.isAgg108, Go.Proofs.Try.zeroValue108, Go.Proofs.Try.underlying108⟩,
  ⟨Go.Proofs.Try.sizeOf109, Go.Proofs.Try.isAgg109, Go.Proofs.Try.zeroValue109, Go.Proofs.Try.underlying109⟩, trivial⟩
theorem mix : Go.Proofs.Try.prog.follows .mixedOrders = true := by kernel_rfl
end Go.Rx
end

section
namespace Go.Rx

structure Mv where
  a : Int
  b : Int
  n : Int
  deriving DecidableEq
def Mv.cells (m : Mv) : List Value := [.int .i64 m.a, .int .i64 m.b, .int .i64 m.n]
def Mv.val (m : Mv) : Value := .agg #[.int .i64 m.a, .int .i64 m.b, .int .i64 m.n]
def Mv.back (m : Mv) : Mv := ⟨m.b, m.a, m.n⟩
def intC (l : List Int) : List Value := l.map (.int .i64)
def mvC (l : List Mv) : List Value := l.flatMap Mv.cells
def wr (n : Int) : Int := IntKind.i64.wrap n
def rInt : Rp Int := .int .i64
def rMv : Rp Mv := .flat 3 Mv.cells (fun _ => rfl)
def inB (n lo hi : Int) : Bool := decide (lo ≤ n ∧ n ≤ hi)
def mvB (k : Int) (m : Mv) : Bool := inB m.a 0 (wr (k - 1)) && inB m.b 0 (wr (k - 1)) && (m.a != m.b) && inB m.n 1 1000
def accOk (n : Int) : Bool := inB n 0 1000000
def accB (l : List Int) : Bool := l.all accOk && inB l.length 1 8
def doL (l : List Int) (m : Mv) : List Int :=
  let l1 := l.set m.a.toNat (wr (l.getD m.a.toNat 0 - m.n))
  l1.set m.b.toNat (wr (l1.getD m.b.toNat 0 + m.n))
def doOk (l : List Int) (m : Mv) : Bool := decide (0 ≤ (doL l m).getD m.a.toNat 0) && decide ((doL l m).getD m.b.toNat 0 ≤ 1000000)
def undo (mv : List Mv) : Nat → List Int → Bool
  | 0, _ => true
  | k + 1, l => doOk l (mv.getD k ⟨0, 0, 0⟩).back && undo mv k (doL l (mv.getD k ⟨0, 0, 0⟩).back)
structure Sg where
  acc : List Int
  mv : List Mv
  done : Int
  und : Bool
  deriving DecidableEq
def Sg.zero : Sg := ⟨[], [], 0, false⟩
def Sg.form (s : Sg) : Bool := accB s.acc && decide (s.mv.length ≤ 20) && inB s.done 0 s.mv.length && s.mv.all (mvB s.acc.length)
def Sg.good (s : Sg) : Bool := s.form && undo s.mv s.done.toNat s.acc
def Sg.step (s : Sg) : Sg × Bool :=
  if s.und then
    if s.done = 0 then (s, false) else ({ s with done := wr (s.done - 1), acc := doL s.acc (s.mv.getD (s.done - 1).toNat ⟨0, 0, 0⟩).back }, true)
  else if s.done = s.mv.length then (s, false)
  else if doOk s.acc (s.mv.getD s.done.toNat ⟨0, 0, 0⟩) then ({ s with acc := doL s.acc (s.mv.getD s.done.toNat ⟨0, 0, 0⟩), done := wr (s.done + 1) }, true)
  else ({ s with und := true }, true)

theorem inB_iff {n lo hi : Int} : inB n lo hi = true ↔ lo ≤ n ∧ n ≤ hi := by simp [inB]
theorem wr_id {n : Int} (h : -9223372036854775808 ≤ n ∧ n ≤ 9223372036854775807) : wr n = n := by
  unfold wr IntKind.wrap
  simp [IntKind.bits, IntKind.signed]
  omega
theorem doL_len (l : List Int) (m : Mv) : (doL l m).length = l.length := by simp [doL]
theorem mvB_some {k : Nat} {m : Mv} (hk : k < 2 ^ 40) (h : mvB k m = true) : (0 ≤ m.a ∧ m.a < k) ∧ (0 ≤ m.b ∧ m.b < k) ∧ m.a ≠ m.b ∧ 1 ≤ m.n ∧ m.n ≤ 1000 := by
  simp only [mvB, Bool.and_eq_true, bne_iff_ne, inB_iff] at h
  rw [wr_id (by omega)] at h
  omega
theorem intC_len (l : List Int) : (intC l).length = l.length := by simp [intC]
theorem mvC_len (l : List Mv) : (mvC l).length = l.length * 3 := by
  induction l with
  | nil => rfl
  | cons m r ih => simp only [mvC, List.flatMap_cons, List.length_append] at ih ⊢; rw [ih]; simp [Mv.cells]; omega
theorem intC_get {l : List Int} {i : Nat} (h : i < l.length) (rest : List Value) : (intC l ++ rest)[i]? = some (.int .i64 (l.getD i 0)) := by
  rw [List.getElem?_append_left (by simpa [intC] using h)]
  simp [intC, h]
theorem mvC_drop (l : List Mv) (i : Nat) (m : Mv) (h : l[i]? = some m) : ((mvC l).drop (i * 3)).take 3 = m.cells := by
  induction l generalizing i with
  | nil => simp at h
  | cons x r ih =>
    cases i with
    | zero => simp at h; subst h; simp [mvC, Mv.cells]
    | succ i =>
      have := ih i (by simpa using h)
      rw [← this]
      simp only [mvC, List.flatMap_cons]
      rw [show (i + 1) * 3 = x.cells.length + i * 3 by simp [Mv.cells]; omega, List.drop_append, List.drop_eq_nil_of_le (Nat.le_add_right _ _), List.nil_append, Nat.add_sub_cancel_left]
theorem intC_drop (l : List Int) (i : Nat) (m : Int) (h : l[i]? = some m) : ((intC l).drop (i * 1)).take 1 = [.int .i64 m] := by
  have hi := (List.getElem?_eq_some_iff.1 h).1
  have e : l[i] = m := (List.getElem?_eq_some_iff.1 h).2
  rw [Nat.mul_one, List.drop_eq_getElem_cons (by simpa [intC] using hi)]
  simp [intC, e]
end Go.Rx
end

section
open Go Go.Rx Go.Proofs
set_option maxHeartbeats 1000000
namespace Go.Rx
theorem l1In_ok (n lo hi : Int) (U : Hp) : PCall Try.prog 45 #[.int .i64 n, .int .i64 lo, .int .i64 hi] U fun v U' => v = .bool (inB n lo hi) := by
  refine OCall.of (args := [.int .i64 n, .int .i64 lo, .int .i64 hi]) E_ok mix Try.func45 (by kernel_rfl) rfl Try.ntmps45 (Nat.le_of_ble_eq_true rfl) fun F w0 => ?_
  refine J.to 10 [] 15 [(0, .v (.int .i64 n)), (2, .v (.int .i64 hi)), (6, .v (.bool false)), (10, .v (.bool (Decidable.decide (n ≥ lo))))] [(6, .some false)] [] [] (by kernel_rfl) ?_
  refine J.br (t := 10) rfl rfl (fun h => ?_) (fun h => ?_)
  · refine J.to 6 [] 15 [(6, .v (.bool (Decidable.decide (n ≤ hi))))] [] [] [] (by kernel_rfl) ?_
    refine J.ret ⟨_, rfl, .inl ?_⟩
    show Value.bool _ = Value.bool _
    simp at h
    simp [inB, h]
  · refine J.to 6 [] 15 [(6, .v (.bool false))] [(6, .some false)] [] [] (by kernel_rfl) ?_
    refine J.ret ⟨_, rfl, .inl ?_⟩
    show Value.bool _ = Value.bool _
    simp at h
    simp [inB]
    omega

theorem l9Move_ok (m : Mv) (k : Int) (U : Hp) : PCall Try.prog 46 #[m.val, .int .i64 k] U fun v U' => v = .bool (mvB k m) := by
  refine OCall.of (args := [m.val, .int .i64 k]) E_ok mix Try.func46 (by kernel_rfl) rfl Try.ntmps46 (Nat.le_of_ble_eq_true rfl) fun F w0 => ?_
  refine J.to 11 [] 29 [(1, .v (.int .i64 k)), (2, .bp 2 0), (4, .v (.bool false)), (5, .bp 2 0), (6, .v (.int .i64 (Mv.a m))), (8, .v (.int .i64 (IntKind.wrap .i64 (k - 1))))] [(4, .some false)] [(2, .box 59 [.int .i64 (Mv.a m), .int .i64 (Mv.b m), .int .i64 (Mv.n m)])] [] (by kernel_rfl) ?_
  refine J.one (Op1.call rfl rfl rfl rfl rfl rfl rfl rfl (l1In_ok _ _ _ _) fun v U1 hx hv => ?_); subst hv
  refine J.to 1 [] 29 [(1, .v (.int .i64 k)), (2, .bp 2 0), (4, .v (.bool false)), (5, .bp 2 0), (10, .v (.bool (inB (Mv.a m) 0 (IntKind.wrap .i64 (k - 1)))))] [(4, .some false)] [(2, .box 59 [.int .i64 (Mv.a m), .int .i64 (Mv.b m), .int .i64 (Mv.n m)])] [] (by kernel_rfl) ?_
  refine J.br rfl rfl (fun h1 => ?_) (fun h1 => ?_)
  · refine J.to 4 [] 29 [(2, .bp 2 0), (4, .v (.bool false)), (5, .bp 2 0), (10, .v (.bool true)), (12, .v (.int .i64 (Mv.b m))), (14, .v (.int .i64 (IntKind.wrap .i64 (k - 1))))] [(4, .some false), (10, .some true)] [(2, .box 59 [.int .i64 (Mv.a m), .int .i64 (Mv.b m), .int .i64 (Mv.n m)])] [] (by kernel_rfl) ?_
    refine J.one (Op1.call rfl rfl rfl rfl rfl rfl rfl rfl (l1In_ok _ _ _ _) fun v U2 hx hv => ?_); subst hv
    refine J.to 2 [] 29 [(2, .bp 2 0), (4, .v (.bool false)), (12, .v (.int .i64 (Mv.b m))), (17, .v (.bool (inB (Mv.b m) 0 (IntKind.wrap .i64 (k - 1)))))] [(4, .some false)] [(2, .box 59 [.int .i64 (Mv.a m), .int .i64 (Mv.b m), .int .i64 (Mv.n m)])] [] (by kernel_rfl) ?_
    refine J.br rfl rfl (fun h2 => ?_) (fun h2 => ?_)
    · refine J.to 7 [] 29 [(2, .bp 2 0), (4, .v (.bool false)), (19, .v (.int .i64 (Mv.a m))), (24, .v (.bool (Mv.a m != Mv.b m)))] [(4, .some false)] [(2, .box 59 [.int .i64 (Mv.a m), .int .i64 (Mv.b m), .int .i64 (Mv.n m)])] [] (by kernel_rfl) ?_
      refine J.br rfl rfl (fun h3 => ?_) (fun h3 => ?_)
      · refine J.to 2 [] 29 [(4, .v (.bool false)), (19, .v (.int .i64 (Mv.a m))), (24, .v (.bool true)), (26, .v (.int .i64 (Mv.n m)))] [(4, .some false), (24, .some true)] [] [] (by kernel_rfl) ?_
        refine J.one (Op1.call rfl rfl rfl rfl rfl rfl rfl rfl (l1In_ok _ _ _ _) fun v U3 hx hv => ?_); subst hv
        refine J.to 3 [] 29 [(4, .v (.bool (inB (Mv.n m) 1 1000)))] [] [] [] (by kernel_rfl) ?_
        refine J.ret ⟨_, rfl, .inl ?_⟩
        show Value.bool _ = Value.bool _
        simp only [mvB, show inB m.a 0 (wr (k - 1)) = true from h1, show inB m.b 0 (wr (k - 1)) = true from h2, show (m.a != m.b) = true from h3, Bool.true_and]
      · refine J.to 6 [] 29 [(4, .v (.bool false))] [(4, .some false)] [] [] (by kernel_rfl) ?_
        refine J.ret ⟨_, rfl, .inl ?_⟩
        show Value.bool _ = Value.bool _
        simp only [mvB, show (m.a != m.b) = false from h3, Bool.and_false, Bool.false_and]
    · refine J.to 13 [] 29 [(4, .v (.bool false))] [(4, .some false)] [] [] (by kernel_rfl) ?_
      refine J.ret ⟨_, rfl, .inl ?_⟩
      show Value.bool _ = Value.bool _
      simp only [mvB, show inB m.b 0 (wr (k - 1)) = false from h2, Bool.and_false, Bool.false_and]
  · refine J.to 20 [] 29 [(4, .v (.bool false))] [(4, .some false)] [] [] (by kernel_rfl) ?_
    refine J.ret ⟨_, rfl, .inl ?_⟩
    show Value.bool _ = Value.bool _
    simp only [mvB, show inB m.a 0 (wr (k - 1)) = false from h1, Bool.false_and]

theorem l9Back_ok (m : Mv) (U : Hp) : PCall Try.prog 48 #[m.val] U fun v U' => v = m.back.val := by
  refine OCall.of (args := [m.val]) E_ok mix Try.func48 (by kernel_rfl) rfl Try.ntmps48 (Nat.le_of_ble_eq_true rfl) fun F w0 => ?_
  refine J.to 16 [] 10 [(2, .bp 2 0)] [] [(2, .box 59 [.int .i64 (Mv.b m), .int .i64 (Mv.a m), .int .i64 (Mv.n m)])] [] (by kernel_rfl) ?_
  refine J.ret ⟨_, rfl, .inl rfl⟩

theorem l9Accounts_ok (v : Value) (l : List Int) (U : Hp) (hl : Rd rInt U v l) (hb : l.length < 2^62) : PCall Try.prog 44 #[v] U fun r U' => r = .bool (accB l) := by
  obtain ⟨A, c, rfl, hc, hA⟩ := hl
  refine OCall.of (args := [.slice A l.length c]) E_ok mix Try.func44 (by kernel_rfl) rfl Try.ntmps44 (Nat.le_of_ble_eq_true rfl) fun F w0 => ?_
  refine J.to 12 [] 18 [(0, .v (.slice A (List.length l) c)), (2, .v (.bool false)), (5, .v (.slice A (List.length l) c)), (6, .v (.int .i64 (↑(List.length l) : Int))), (7, .v (.int .i64 0))] [(2, .some false)] [] [] (by kernel_rfl) ?_
  refine J.loopK 18 [] (fun i : Nat => [(0, .v (.slice A l.length c)), (5, .v (.slice A l.length c)), (6, .v (.int .i64 l.length)), (7, .v (.int .i64 i))]) (fun _ => [])
    (fun i U' => i ≤ l.length ∧ (l.take i).all accOk = true ∧ Arr rInt U' A l) (fun i => l.length - i) 0 ⟨Nat.zero_le _, rfl, hA⟩ (by kernel_rfl) fun i U' ⟨h1, h2, hA⟩ hx => ?_
  refine J.to 5 [] 18 [(0, .v (.slice A (List.length l) c)), (5, .v (.slice A (List.length l) c)), (6, .v (.int .i64 (↑(List.length l) : Int))), (7, .v (.int .i64 (↑i : Int))), (8, .v (.bool (Decidable.decide ((↑i : Int) < (↑(List.length l) : Int)))))] [] [] [] (by kernel_rfl) ?_
  refine J.br rfl rfl (fun hb => ?_) (fun hb => ?_)
  · replace hb : (i : Int) < l.length := of_decide_eq_true hb
    have hlt : i < l.length := by omega
    refine J.to 6 [true] 18 [(0, .v (.slice A (List.length l) c)), (5, .v (.slice A (List.length l) c)), (6, .v (.int .i64 (↑(List.length l) : Int))), (7, .v (.int .i64 (↑i : Int)))] [] [] [] (by kernel_rfl) ?_
    refine J.one (Op1.index (r := rInt) rfl rfl rfl rfl rfl ⟨_, _, _, _, _, rfl, rfl, rfl⟩ rfl rfl hA (by omega) hb fun q b o' cs hq hcs => ?_)
    subst hcs
    refine J.to 6 [] 18 [(0, .v (.slice A (List.length l) c)), (5, .v (.slice A (List.length l) c)), (6, .v (.int .i64 (↑(List.length l) : Int))), (7, .v (.int .i64 (↑i : Int))), (11, .v (.int .i64 q))] [] [] [] (by kernel_rfl) ?_
    refine J.one (Op1.call rfl rfl rfl rfl rfl rfl rfl rfl (l1In_ok _ _ _ U') fun v U2 hx2 hv => ?_)
    subst hv
    have hq' : l[i] = q := by
      have := (List.getElem?_eq_some_iff.1 hq).2
      simpa using this
    have htake : l.take (i + 1) = l.take i ++ [q] := by rw [← hq', List.take_succ_eq_append_getElem hlt]
    refine J.to 2 [] 18 [(0, .v (.slice A (List.length l) c)), (5, .v (.slice A (List.length l) c)), (6, .v (.int .i64 (↑(List.length l) : Int))), (7, .v (.int .i64 (↑i : Int))), (13, .v (.bool !inB q 0 1000000))] [] [] [] (by kernel_rfl) ?_
    refine J.br rfl rfl (fun hb => ?_) (fun hb => ?_)
    · refine J.to 5 [true] 18 [(0, .v (.slice A (List.length l) c)), (5, .v (.slice A (List.length l) c)), (6, .v (.int .i64 (↑(List.length l) : Int))), (7, .v (.int .i64 (↑i : Int))), (2, .v (.bool false))] [(2, .some false)] [] [] (by kernel_rfl) ?_
      refine J.ret ⟨_, rfl, .inl ?_⟩
      show Value.bool false = Value.bool _
      have hb : inB q 0 1000000 = false := by simpa using hb
      have : l.all accOk = false := by
        rw [List.all_eq_false]
        exact ⟨q, hq' ▸ List.getElem_mem hlt, by simp [accOk, hb]⟩
      simp [accB, this]
    · have hb : inB q 0 1000000 = true := by simpa using hb
      refine J.to 7 [false] 18 [(0, .v (.slice A (List.length l) c)), (5, .v (.slice A (List.length l) c)), (6, .v (.int .i64 (↑(List.length l) : Int))), (7, .v (.int .i64 (IntKind.wrap .i64 ((↑i : Int) + 1))))] [] [] [] (by kernel_rfl) ?_
      rw [show IntKind.wrap .i64 ((i : Int) + 1) = ((i + 1 : Nat) : Int) from wr_id (by omega)]
      refine J.againK (i + 1) (by kernel_rfl) ⟨by omega, ?_, hA.mono hx2⟩ (by omega)
      · rw [htake, List.all_append, h2]
        simp [accOk, hb]
  · replace hb : ¬ (i : Int) < l.length := of_decide_eq_false hb
    obtain rfl : i = l.length := by omega
    refine J.to 6 [false] 18 [(16, .v (.int .i64 (↑(List.length l) : Int)))] [] [] [] (by kernel_rfl) ?_
    refine J.one (Op1.call rfl rfl rfl rfl rfl rfl rfl rfl (l1In_ok _ _ _ U') fun v U2 hx2 hv => ?_)
    subst hv
    refine J.to 2 [] 18 [(2, .v (.bool (inB (↑(List.length l) : Int) 1 8)))] [] [] [] (by kernel_rfl) ?_
    refine J.ret ⟨_, rfl, .inl ?_⟩
    show Value.bool _ = Value.bool _
    rw [List.take_length] at h2
    simp [accB, h2]

theorem l9Do_own (v : Value) (l : List Int) (m : Mv) (U : Hp) (hl : Rd rInt U v l) (hb : l.length < 2^40) (h1 : 0 ≤ m.a ∧ m.a < l.length) (h2 : 0 ≤ m.b ∧ m.b < l.length) :
    OCall Try.prog 47 #[v, m.val] U fun r U' L => ∃ v', r = .tuple #[v', .bool (doOk l m)] ∧ arr v' 3 1 l.length (intC (doL l m)) L := by
  refine OCall.of (args := [v, m.val]) E_ok mix Try.func47 (by kernel_rfl) rfl Try.ntmps47 (Nat.le_of_ble_eq_true rfl) fun F w0 => ?_
  refine J.to 8 [] 43 [(0, .v v), (3, .bp 3 0), (4, .v (.slice .none 0 0)), (5, .v (.bool false))] [(5, .some false)] [(3, .box 59 [.int .i64 (Mv.a m), .int .i64 (Mv.b m), .int .i64 (Mv.n m)])] [] (by kernel_rfl) ?_
  refine J.one (Op1.buildSlice (pv := []) (cells := []) (zz := .int .i64 0) rfl rfl rfl rfl rfl ⟨_,_,_,_,_,rfl,rfl⟩ (by decide) (by decide) rfl rfl rfl fun g0 => ?_)
  refine J.to 1 [] 43 [(3, .bp 3 0), (4, .v (.slice .none 0 0)), (5, .v (.bool false)), (7, .v (.slice (.some (Addr.mk g0 0 .none)) 0 0)), (8, .v v)] [(5, .some false)] [(3, .box 59 [.int .i64 (Mv.a m), .int .i64 (Mv.b m), .int .i64 (Mv.n m)]), (7, .own (arr (.slice (.some (Addr.mk g0 0 .none)) 0 0) 3 1 0 []))] [] (by kernel_rfl) ?_
  refine J.one (Op1.append (t := 23) (e := 3) (k := 7) (news := intC l) (m := l.length) (bytes := 8) rfl rfl rfl rfl rfl rfl rfl rfl ⟨_,_,_,rfl⟩ rfl rfl rfl (by decide) rfl rfl ?_ (by simp [intC]) (by simp [intC, Value.oneCell']) (by omega) (by omega) fun v' hv' => ?_)
  · exact J.src_rd rfl hl (by intro i q cs hi hr; cases hr; exact intC_drop l i q hi) (by simp [intC, rInt, Rp.int]) (by decide)
  · have hne : v' ≠ .slice none 0 0 := fun e => by have := (hv'.1 e).1; cases this
    have hlen : (intC l).length = l.length := intC_len l
    generalize hA : l.set m.a.toNat (wr (l.getD m.a.toNat 0 - m.n)) = l1
    have hlen1 : l1.length = l.length := by rw [← hA]; simp
    generalize hB : l1.set m.b.toNat (wr (l1.getD m.b.toNat 0 + m.n)) = l2
    have hlen2 : l2.length = l.length := by rw [← hB]; simp [hlen1]
    have hdo : doL l m = l2 := by rw [doL, hA, ← hB]
    refine J.arrBox 9 rfl hne fun g cap rest e0 hnc hcm hl1 hl2 => ?_
    subst e0
    refine J.to 3 [] 43 [(3, .bp 3 0), (4, .v (.slice .none 0 0)), (5, .v (.bool false)), (7, .v (.slice (.some (Addr.mk g0 0 .none)) 0 0)), (6, .v (.slice (.some (Addr.mk g 0 .none)) (0 + List.length l) cap))] [(5, .some false)] [(3, .box 59 [.int .i64 (Mv.a m), .int .i64 (Mv.b m), .int .i64 (Mv.n m)]), (9, .box 3 ([] ++ intC l ++ rest))] [(9, .some g)] (by kernel_rfl) ?_
    refine J.any [3] [] [(9, g)] ⟨rfl, trivial⟩ fun ρ1 ⟨hρ1, _⟩ => ?_
    refine J.takeTo true [0, 1, 2, 5, 6] 5 43 [(3, .bp 3 0), (4, .v (.slice .none 0 0)), (5, .v (.bool false)), (6, .v (.slice (.some (Addr.mk g 0 .none)) (0 + List.length l) cap)), (7, .v (.slice (.some (Addr.mk g0 0 .none)) 0 0)), (10, .v (.slice (.some (Addr.mk g 0 .none)) (0 + List.length l) cap)), (11, .bp 3 0), (12, .v (.int .i64 (Mv.a m))), (15, .bp 3 2), (16, .v (.int .i64 (Mv.n m)))] [(5, .some false)] [(3, .box 59 [.int .i64 (Mv.a m), .int .i64 (Mv.b m), .int .i64 (Mv.n m)]), (9, .box 3 ([] ++ intC l ++ rest))] [(3, .some (ρ1 3)), (9, .some (ρ1 9))] (by first | exact Ext.refl _ | assumption | exact Ext.trans (by assumption) (by assumption)) (fun h => rfl) ⟨⟨rfl, rfl⟩, trivial⟩ rfl (by kernel_rfl) ?_
    refine J.aone (i := 3) (by kernel_rfl) (Op1.indexB (key := 9) rfl rfl rfl rfl rfl ⟨_,_,_,_,_,rfl,rfl,rfl⟩ rfl (congrArg some hρ1) rfl h1.1 (by omega) ⟨fun _ => ⟨Ext.refl _, ⟨rfl, rfl⟩, trivial⟩, ?_⟩)
    refine J.aone (i := 4) (by kernel_rfl) (Op1.loadB (v := .int .i64 (l.getD m.a.toNat 0)) rfl rfl rfl rfl rfl rfl rfl ?_ ⟨fun _ => ⟨Ext.refl _, ⟨rfl, rfl⟩, trivial⟩, ?_⟩)
    · show ([] ++ intC l ++ rest)[m.a.toNat * 1]? = _
      rw [Nat.mul_one]; exact intC_get (by omega) rest
    refine J.takeTo true [7] 2 43 [(3, .bp 3 0), (4, .v (.slice .none 0 0)), (5, .v (.bool false)), (6, .v (.slice (.some (Addr.mk g 0 .none)) (0 + List.length l) cap)), (7, .v (.slice (.some (Addr.mk g0 0 .none)) 0 0)), (10, .v (.slice (.some (Addr.mk g 0 .none)) (0 + List.length l) cap)), (11, .bp 3 0), (12, .v (.int .i64 (Mv.a m))), (13, .bp 9 (Int.toNat (Mv.a m) * 1)), (14, .v (.int .i64 (List.getD l (Int.toNat (Mv.a m)) 0))), (15, .bp 3 2), (16, .v (.int .i64 (Mv.n m))), (17, .v (.int .i64 (IntKind.wrap .i64 (List.getD l (Int.toNat (Mv.a m)) 0 - Mv.n m))))] [(5, .some false)] [(3, .box 59 [.int .i64 (Mv.a m), .int .i64 (Mv.b m), .int .i64 (Mv.n m)]), (9, .box 3 ([] ++ intC l ++ rest))] [(3, .some (ρ1 3)), (9, .some (ρ1 9))] (by first | exact Ext.refl _ | assumption | exact Ext.trans (by assumption) (by assumption)) (fun h => rfl) ⟨⟨rfl, rfl⟩, trivial⟩ rfl (by kernel_rfl) ?_
    refine J.aone (i := 8) (by kernel_rfl) (Op1.indexB (key := 9) rfl rfl rfl rfl rfl ⟨_,_,_,_,_,rfl,rfl,rfl⟩ rfl (congrArg some hρ1) rfl h1.1 (by omega) ⟨fun _ => ⟨Ext.refl _, ⟨rfl, rfl⟩, trivial⟩, ?_⟩)
    refine J.aone (i := 9) (by kernel_rfl) (Op1.storeB (cells' := intC l1 ++ rest) rfl rfl rfl rfl rfl rfl rfl ⟨_, rfl, rfl⟩ ?_ rfl ?_ ⟨fun _ => ⟨Ext.refl _, ⟨rfl, rfl⟩, trivial⟩, ?_⟩)
    · show m.a.toNat * 1 + 1 ≤ ([] ++ intC l ++ rest).length
      simp [hlen]; omega
    · show putCells ([] ++ intC l ++ rest) (m.a.toNat * 1) [_] = _
      rw [putCells_app _ _ _ _ (by simp [hlen]; omega), ← hA]
      simp [putCells, intC, List.map_set, wr]
    refine J.adone' (by kernel_rfl) ?_
    refine J.to 1 [] 43 [(3, .bp 3 0), (4, .v (.slice .none 0 0)), (5, .v (.bool false)), (6, .v (.slice (.some (Addr.mk g 0 .none)) (0 + List.length l) cap)), (7, .v (.slice (.some (Addr.mk g0 0 .none)) 0 0))] [(5, .some false)] [(3, .box 59 [.int .i64 (Mv.a m), .int .i64 (Mv.b m), .int .i64 (Mv.n m)]), (9, .box 3 (intC l1 ++ rest))] [(3, .some (ρ1 3)), (9, .some (ρ1 9))] (by kernel_rfl) ?_
    refine J.any [3] [] [(9, g)] ⟨congrArg some hρ1, trivial⟩ fun ρ2 ⟨hρ2, _⟩ => ?_
    refine J.takeTo true [0, 1, 2, 5, 6] 5 43 [(3, .bp 3 0), (4, .v (.slice .none 0 0)), (5, .v (.bool false)), (6, .v (.slice (.some (Addr.mk g 0 .none)) (0 + List.length l) cap)), (7, .v (.slice (.some (Addr.mk g0 0 .none)) 0 0)), (19, .v (.slice (.some (Addr.mk g 0 .none)) (0 + List.length l) cap)), (20, .bp 3 1), (21, .v (.int .i64 (Mv.b m))), (24, .bp 3 2), (25, .v (.int .i64 (Mv.n m)))] [(5, .some false)] [(3, .box 59 [.int .i64 (Mv.a m), .int .i64 (Mv.b m), .int .i64 (Mv.n m)]), (9, .box 3 (intC l1 ++ rest))] [(3, .some (ρ2 3)), (9, .some (ρ2 9))] (by first | exact Ext.refl _ | assumption | exact Ext.trans (by assumption) (by assumption)) (fun h => rfl) ⟨⟨rfl, rfl⟩, trivial⟩ rfl (by kernel_rfl) ?_
    refine J.aone (i := 3) (by kernel_rfl) (Op1.indexB (key := 9) rfl rfl rfl rfl rfl ⟨_,_,_,_,_,rfl,rfl,rfl⟩ rfl (congrArg some hρ2) rfl h2.1 (by omega) ⟨fun _ => ⟨Ext.refl _, ⟨rfl, rfl⟩, trivial⟩, ?_⟩)
    refine J.aone (i := 4) (by kernel_rfl) (Op1.loadB (v := .int .i64 (l1.getD m.b.toNat 0)) rfl rfl rfl rfl rfl rfl rfl ?_ ⟨fun _ => ⟨Ext.refl _, ⟨rfl, rfl⟩, trivial⟩, ?_⟩)
    · show (intC l1 ++ rest)[m.b.toNat * 1]? = _
      rw [Nat.mul_one]; exact intC_get (by omega) rest
    refine J.takeTo true [7] 2 43 [(3, .bp 3 0), (4, .v (.slice .none 0 0)), (5, .v (.bool false)), (6, .v (.slice (.some (Addr.mk g 0 .none)) (0 + List.length l) cap)), (7, .v (.slice (.some (Addr.mk g0 0 .none)) 0 0)), (19, .v (.slice (.some (Addr.mk g 0 .none)) (0 + List.length l) cap)), (20, .bp 3 1), (21, .v (.int .i64 (Mv.b m))), (22, .bp 9 (Int.toNat (Mv.b m) * 1)), (23, .v (.int .i64 (List.getD l1 (Int.toNat (Mv.b m)) 0))), (24, .bp 3 2), (25, .v (.int .i64 (Mv.n m))), (26, .v (.int .i64 (IntKind.wrap .i64 (List.getD l1 (Int.toNat (Mv.b m)) 0 + Mv.n m))))] [(5, .some false)] [(3, .box 59 [.int .i64 (Mv.a m), .int .i64 (Mv.b m), .int .i64 (Mv.n m)]), (9, .box 3 (intC l1 ++ rest))] [(3, .some (ρ2 3)), (9, .some (ρ2 9))] (by first | exact Ext.refl _ | assumption | exact Ext.trans (by assumption) (by assumption)) (fun h => rfl) ⟨⟨rfl, rfl⟩, trivial⟩ rfl (by kernel_rfl) ?_
    refine J.aone (i := 8) (by kernel_rfl) (Op1.indexB (key := 9) rfl rfl rfl rfl rfl ⟨_,_,_,_,_,rfl,rfl,rfl⟩ rfl (congrArg some hρ2) rfl h2.1 (by omega) ⟨fun _ => ⟨Ext.refl _, ⟨rfl, rfl⟩, trivial⟩, ?_⟩)
    refine J.aone (i := 9) (by kernel_rfl) (Op1.storeB (cells' := intC l2 ++ rest) rfl rfl rfl rfl rfl rfl rfl ⟨_, rfl, rfl⟩ ?_ rfl ?_ ⟨fun _ => ⟨Ext.refl _, ⟨rfl, rfl⟩, trivial⟩, ?_⟩)
    · show m.b.toNat * 1 + 1 ≤ (intC l1 ++ rest).length
      simp [intC_len, hlen1]; omega
    · show putCells (intC l1 ++ rest) (m.b.toNat * 1) [_] = _
      rw [putCells_app _ _ _ _ (by simp [intC_len, hlen1]; omega), ← hB]
      simp [putCells, intC, List.map_set, wr]
    refine J.adone' (by kernel_rfl) ?_
    refine J.to 1 [] 43 [(3, .bp 3 0), (4, .v (.slice .none 0 0)), (5, .v (.bool false)), (6, .v (.slice (.some (Addr.mk g 0 .none)) (0 + List.length l) cap)), (7, .v (.slice (.some (Addr.mk g0 0 .none)) 0 0))] [(5, .some false)] [(3, .box 59 [.int .i64 (Mv.a m), .int .i64 (Mv.b m), .int .i64 (Mv.n m)]), (9, .box 3 (intC l2 ++ rest))] [(3, .some (ρ2 3)), (9, .some (ρ2 9))] (by kernel_rfl) ?_
    refine J.any [3] [] [(9, g)] ⟨congrArg some hρ2, trivial⟩ fun ρ3 ⟨hρ3, _⟩ => ?_
    refine J.takeTo true [0, 1, 2, 3] 13 43 [(3, .bp 3 0), (4, .v (.slice .none 0 0)), (5, .v (.bool false)), (6, .v (.slice (.some (Addr.mk g 0 .none)) (0 + List.length l) cap)), (7, .v (.slice (.some (Addr.mk g0 0 .none)) 0 0)), (28, .v (.slice (.some (Addr.mk g 0 .none)) (0 + List.length l) cap)), (29, .v (.slice (.some (Addr.mk g 0 .none)) (0 + List.length l) cap)), (30, .bp 3 0), (31, .v (.int .i64 (Mv.a m)))] [(5, .some false)] [(3, .box 59 [.int .i64 (Mv.a m), .int .i64 (Mv.b m), .int .i64 (Mv.n m)]), (9, .box 3 (intC l2 ++ rest))] [(3, .some (ρ3 3)), (9, .some (ρ3 9))] (by first | exact Ext.refl _ | assumption | exact Ext.trans (by assumption) (by assumption)) (fun h => rfl) ⟨⟨rfl, rfl⟩, trivial⟩ rfl (by kernel_rfl) ?_
    refine J.aone (i := 4) (by kernel_rfl) (Op1.indexB (key := 9) rfl rfl rfl rfl rfl ⟨_,_,_,_,_,rfl,rfl,rfl⟩ rfl (congrArg some hρ3) rfl h1.1 (by omega) ⟨fun _ => ⟨Ext.refl _, ⟨rfl, rfl⟩, trivial⟩, ?_⟩)
    refine J.aone (i := 5) (by kernel_rfl) (Op1.loadB (v := .int .i64 (l2.getD m.a.toNat 0)) rfl rfl rfl rfl rfl rfl rfl ?_ ⟨fun _ => ⟨Ext.refl _, ⟨rfl, rfl⟩, trivial⟩, ?_⟩)
    · show (intC l2 ++ rest)[m.a.toNat * 1]? = _
      rw [Nat.mul_one]; exact intC_get (by omega) rest
    refine J.takeTo true [6, 7, 15] 8 43 [(3, .bp 3 0), (5, .v (.bool false)), (6, .v (.slice (.some (Addr.mk g 0 .none)) (0 + List.length l) cap)), (7, .v (.slice (.some (Addr.mk g0 0 .none)) 0 0)), (28, .v (.slice (.some (Addr.mk g 0 .none)) (0 + List.length l) cap)), (29, .v (.slice (.some (Addr.mk g 0 .none)) (0 + List.length l) cap)), (30, .bp 3 0), (31, .v (.int .i64 (Mv.a m))), (32, .bp 9 (Int.toNat (Mv.a m) * 1)), (33, .v (.int .i64 (List.getD l2 (Int.toNat (Mv.a m)) 0))), (34, .v (.bool (Decidable.decide (List.getD l2 (Int.toNat (Mv.a m)) 0 ≥ 0)))), (35, .v (.bool (Decidable.decide (List.getD l2 (Int.toNat (Mv.a m)) 0 ≥ 0)))), (4, .v (.slice (.some (Addr.mk g 0 .none)) (0 + List.length l) cap))] [(5, .some false)] [(3, .box 59 [.int .i64 (Mv.a m), .int .i64 (Mv.b m), .int .i64 (Mv.n m)]), (9, .box 3 (intC l2 ++ rest))] [(3, .some (ρ3 3)), (9, .some (ρ3 9))] (by first | exact Ext.refl _ | assumption | exact Ext.trans (by assumption) (by assumption)) (fun h => rfl) ⟨⟨rfl, rfl⟩, trivial⟩ rfl (by kernel_rfl) ?_
    refine J.brAt 35 rfl (fun hb => ?_) (fun hb => ?_)
    · refine J.takeTo true [8, 9, 10] 5 43 [(3, .bp 3 0), (4, .v (.slice (.some (Addr.mk g 0 .none)) (0 + List.length l) cap)), (5, .v (.bool false)), (6, .v (.slice (.some (Addr.mk g 0 .none)) (0 + List.length l) cap)), (7, .v (.slice (.some (Addr.mk g0 0 .none)) 0 0)), (28, .v (.slice (.some (Addr.mk g 0 .none)) (0 + List.length l) cap)), (29, .v (.slice (.some (Addr.mk g 0 .none)) (0 + List.length l) cap)), (30, .bp 3 0), (31, .v (.int .i64 (Mv.a m))), (32, .bp 9 (Int.toNat (Mv.a m) * 1)), (33, .v (.int .i64 (List.getD l2 (Int.toNat (Mv.a m)) 0))), (34, .v (.bool (Decidable.decide (List.getD l2 (Int.toNat (Mv.a m)) 0 ≥ 0)))), (35, .v (.bool true)), (36, .v (.slice (.some (Addr.mk g 0 .none)) (0 + List.length l) cap)), (37, .bp 3 1), (38, .v (.int .i64 (Mv.b m)))] [(5, .some false), (35, .some true)] [(3, .box 59 [.int .i64 (Mv.a m), .int .i64 (Mv.b m), .int .i64 (Mv.n m)]), (9, .box 3 (intC l2 ++ rest))] [(3, .some (ρ3 3)), (9, .some (ρ3 9))] (by first | exact Ext.refl _ | assumption | exact Ext.trans (by assumption) (by assumption)) (fun h => rfl) ⟨⟨rfl, rfl⟩, trivial⟩ rfl (by kernel_rfl) ?_
      refine J.aone (i := 11) (by kernel_rfl) (Op1.indexB (key := 9) rfl rfl rfl rfl rfl ⟨_,_,_,_,_,rfl,rfl,rfl⟩ rfl (congrArg some hρ3) rfl h2.1 (by omega) ⟨fun _ => ⟨Ext.refl _, ⟨rfl, rfl⟩, trivial⟩, ?_⟩)
      refine J.aone (i := 12) (by kernel_rfl) (Op1.loadB (v := .int .i64 (l2.getD m.b.toNat 0)) rfl rfl rfl rfl rfl rfl rfl ?_ ⟨fun _ => ⟨Ext.refl _, ⟨rfl, rfl⟩, trivial⟩, ?_⟩)
      · show (intC l2 ++ rest)[m.b.toNat * 1]? = _
        rw [Nat.mul_one]; exact intC_get (by omega) rest
      refine J.takeTo true [13, 14, 16] 0 43 [(3, .bp 3 0), (4, .v (.slice (.some (Addr.mk g 0 .none)) (0 + List.length l) cap)), (6, .v (.slice (.some (Addr.mk g 0 .none)) (0 + List.length l) cap)), (7, .v (.slice (.some (Addr.mk g0 0 .none)) 0 0)), (28, .v (.slice (.some (Addr.mk g 0 .none)) (0 + List.length l) cap)), (29, .v (.slice (.some (Addr.mk g 0 .none)) (0 + List.length l) cap)), (30, .bp 3 0), (31, .v (.int .i64 (Mv.a m))), (32, .bp 9 (Int.toNat (Mv.a m) * 1)), (33, .v (.int .i64 (List.getD l2 (Int.toNat (Mv.a m)) 0))), (34, .v (.bool (Decidable.decide (List.getD l2 (Int.toNat (Mv.a m)) 0 ≥ 0)))), (35, .v (.bool true)), (36, .v (.slice (.some (Addr.mk g 0 .none)) (0 + List.length l) cap)), (37, .bp 3 1), (38, .v (.int .i64 (Mv.b m))), (39, .bp 9 (Int.toNat (Mv.b m) * 1)), (40, .v (.int .i64 (List.getD l2 (Int.toNat (Mv.b m)) 0))), (41, .v (.bool (Decidable.decide (List.getD l2 (Int.toNat (Mv.b m)) 0 ≤ 1000000)))), (42, .v (.bool (Decidable.decide (List.getD l2 (Int.toNat (Mv.b m)) 0 ≤ 1000000)))), (5, .v (.bool (Decidable.decide (List.getD l2 (Int.toNat (Mv.b m)) 0 ≤ 1000000))))] [(35, .some true)] [(3, .box 59 [.int .i64 (Mv.a m), .int .i64 (Mv.b m), .int .i64 (Mv.n m)]), (9, .box 3 (intC l2 ++ rest))] [(3, .some (ρ3 3)), (9, .some (ρ3 9))] (by first | exact Ext.refl _ | assumption | exact Ext.trans (by assumption) (by assumption)) (fun h => rfl) ⟨⟨rfl, rfl⟩, trivial⟩ rfl (by kernel_rfl) ?_
      refine J.adone' (by kernel_rfl) ?_
      refine J.boxArr (xs := intC l2) (n := l.length) (size := 1) (cap := cap) 9 rfl (congrArg some hρ3) (by omega) hcm (by simp [intC_len, hlen2]) (by simp [intC_len, hlen2] at hl2 ⊢; omega) ?_
      refine J.to 0 [] 43 [(4, .v (.slice (.some (Addr.mk g 0 .none)) (0 + List.length l) cap)), (5, .v (.bool (Decidable.decide (List.getD l2 (Int.toNat (Mv.b m)) 0 ≤ 1000000))))] [] [(3, .box 59 [.int .i64 (Mv.a m), .int .i64 (Mv.b m), .int .i64 (Mv.n m)]), (9, .own (arr (.slice (.some (Addr.mk g 0 .none)) (List.length l) cap) 3 1 (List.length l) (intC l2)))] [(3, .some (ρ3 3)), (9, .some (ρ3 9))] (by kernel_rfl) ?_
      refine J.ret ⟨_, rfl, .inr ⟨9, _, rfl, fun L hL => ⟨.slice (some ⟨g, 0, none⟩) l.length cap, ?_, ?_⟩⟩⟩
      · show Value.tuple #[.slice (some ⟨g, 0, none⟩) (0 + l.length) cap, .bool _] = _
        rw [Nat.zero_add, doOk, hdo, show decide (0 ≤ l2.getD m.a.toNat 0) = true from hb]; rfl
      · rw [hdo]; exact hL
    · refine J.takeTo true [8, 9, 10, 11, 12, 13, 14, 16] 0 43 [(3, .bp 3 0), (4, .v (.slice (.some (Addr.mk g 0 .none)) (0 + List.length l) cap)), (6, .v (.slice (.some (Addr.mk g 0 .none)) (0 + List.length l) cap)), (7, .v (.slice (.some (Addr.mk g0 0 .none)) 0 0)), (28, .v (.slice (.some (Addr.mk g 0 .none)) (0 + List.length l) cap)), (29, .v (.slice (.some (Addr.mk g 0 .none)) (0 + List.length l) cap)), (30, .bp 3 0), (31, .v (.int .i64 (Mv.a m))), (32, .bp 9 (Int.toNat (Mv.a m) * 1)), (33, .v (.int .i64 (List.getD l2 (Int.toNat (Mv.a m)) 0))), (34, .v (.bool (Decidable.decide (List.getD l2 (Int.toNat (Mv.a m)) 0 ≥ 0)))), (35, .v (.bool false)), (36, .v (.tuple (Array.mk []))), (37, .v (.tuple (Array.mk []))), (38, .v (.tuple (Array.mk []))), (39, .v (.tuple (Array.mk []))), (40, .v (.tuple (Array.mk []))), (41, .v (.tuple (Array.mk []))), (42, .v (.bool false)), (5, .v (.bool false))] [(35, .some false), (42, .some false), (5, .some false)] [(3, .box 59 [.int .i64 (Mv.a m), .int .i64 (Mv.b m), .int .i64 (Mv.n m)]), (9, .box 3 (intC l2 ++ rest))] [(3, .some (ρ3 3)), (9, .some (ρ3 9))] (by first | exact Ext.refl _ | assumption | exact Ext.trans (by assumption) (by assumption)) (fun h => rfl) ⟨⟨rfl, rfl⟩, trivial⟩ rfl (by kernel_rfl) ?_
      refine J.adone' (by kernel_rfl) ?_
      refine J.boxArr (xs := intC l2) (n := l.length) (size := 1) (cap := cap) 9 rfl (congrArg some hρ3) (by omega) hcm (by simp [intC_len, hlen2]) (by simp [intC_len, hlen2] at hl2 ⊢; omega) ?_
      refine J.to 0 [] 43 [(4, .v (.slice (.some (Addr.mk g 0 .none)) (0 + List.length l) cap)), (5, .v (.bool false))] [(5, .some false)] [(3, .box 59 [.int .i64 (Mv.a m), .int .i64 (Mv.b m), .int .i64 (Mv.n m)]), (9, .own (arr (.slice (.some (Addr.mk g 0 .none)) (List.length l) cap) 3 1 (List.length l) (intC l2)))] [(3, .some (ρ3 3)), (9, .some (ρ3 9))] (by kernel_rfl) ?_
      refine J.ret ⟨_, rfl, .inr ⟨9, _, rfl, fun L hL => ⟨.slice (some ⟨g, 0, none⟩) l.length cap, ?_, ?_⟩⟩⟩
      · show Value.tuple #[.slice (some ⟨g, 0, none⟩) (0 + l.length) cap, .bool _] = _
        rw [Nat.zero_add, doOk, hdo, show decide (0 ≤ l2.getD m.a.toNat 0) = false from hb]; rfl
      · rw [hdo]; exact hL
end Go.Rx
end

section
open Go Go.Rx Go.Proofs
set_option maxHeartbeats 1000000
namespace Go.Rx
theorem int_rd {U L : Hp} {v : Value} {l : List Int} (h : arr v 3 1 l.length (intC l) L) (hx : Ext L U) : Rd rInt U v l :=
  arr_rd h hx fun i x hi => ⟨_, rfl, intC_drop l i x hi⟩
theorem mv_rd {U L : Hp} {v : Value} {l : List Mv} (h : arr v 59 3 l.length (mvC l) L) (hx : Ext L U) : Rd rMv U v l :=
  arr_rd h hx fun i x hi => ⟨_, rfl, mvC_drop l i x hi⟩

theorem l9Do_ok (v : Value) (l : List Int) (m : Mv) (U : Hp) (hl : Rd rInt U v l) (hb : l.length < 2^40) (h1 : 0 ≤ m.a ∧ m.a < l.length) (h2 : 0 ≤ m.b ∧ m.b < l.length) :
    PCall Try.prog 47 #[v, m.val] U fun r U' => ∃ v', r = .tuple #[v', .bool (doOk l m)] ∧ Rd rInt U' v' (doL l m) :=
  (l9Do_own v l m U hl hb h1 h2).pub fun r U' L U'' _ _ h2 ⟨v', e, ha⟩ => ⟨v', e, int_rd (by rw [doL_len]; exact ha) h2⟩

theorem form_false {s : Sg} (h : s.form = false) : s.good = false := by simp [Sg.good, h]

theorem specGood_ok (va vm : Value) (s : Sg) (U : Hp) (ha : Rd rInt U va s.acc) (hm : Rd rMv U vm s.mv) (hb : s.acc.length < 2^40) (hb2 : s.mv.length < 2^40) :
    PCall Try.prog 19 #[.agg #[va, vm, .int .i64 s.done, .bool s.und]] U fun r U' => r = .bool s.good := by
  obtain ⟨B, c, rfl, hc, hB⟩ := hm
  obtain ⟨A, ca, rfl, hca, hA⟩ := ha
  refine OCall.of (args := [.agg #[.slice A s.acc.length ca, .slice B s.mv.length c, .int .i64 s.done, .bool s.und]]) E_ok mix Try.func19 (by kernel_rfl) rfl Try.ntmps19 (Nat.le_of_ble_eq_true rfl) fun F w0 => ?_
  refine J.to 10 [] 65 [(1, .bp 1 0), (2, .v (.bool false)), (10, .v (.slice A (List.length (Sg.acc s)) ca))] [(2, .some false)] [(1, .box 28 [.slice A (List.length (Sg.acc s)) ca, .slice B (List.length (Sg.mv s)) c, .int .i64 (Sg.done s), .bool (Sg.und s)])] [] (by kernel_rfl) ?_
  refine J.one (Op1.call rfl rfl rfl rfl rfl rfl rfl rfl (l9Accounts_ok _ s.acc U ⟨A, ca, rfl, hca, hA⟩ (by omega)) fun v U1 hx1 hv => ?_); subst hv
  refine J.to 2 [] 65 [(1, .bp 1 0), (2, .v (.bool false)), (10, .v (.slice A (List.length (Sg.acc s)) ca)), (13, .v (.bool !accB (Sg.acc s)))] [(2, .some false)] [(1, .box 28 [.slice A (List.length (Sg.acc s)) ca, .slice B (List.length (Sg.mv s)) c, .int .i64 (Sg.done s), .bool (Sg.und s)])] [] (by kernel_rfl) ?_
  refine J.br rfl rfl (fun h1 => ?_) (fun h1 => ?_)
  · refine J.to 20 [true] 65 [(1, .bp 1 0), (2, .v (.bool false))] [(2, .some false)] [(1, .box 28 [.slice A (List.length (Sg.acc s)) ca, .slice B (List.length (Sg.mv s)) c, .int .i64 (Sg.done s), .bool (Sg.und s)])] [] (by kernel_rfl) ?_
    refine J.ret ⟨_, rfl, .inl ?_⟩
    show Value.bool false = Value.bool _
    rw [form_false]
    simp at h1
    simp [Sg.form, h1]
  refine J.to 6 [] 65 [(1, .bp 1 0), (2, .v (.bool false)), (10, .v (.slice A (List.length (Sg.acc s)) ca)), (19, .v (.bool (Decidable.decide ((↑(List.length (Sg.mv s)) : Int) > 20))))] [(2, .some false)] [(1, .box 28 [.slice A (List.length (Sg.acc s)) ca, .slice B (List.length (Sg.mv s)) c, .int .i64 (Sg.done s), .bool (Sg.und s)])] [] (by kernel_rfl) ?_
  refine J.br rfl rfl (fun h2 => ?_) (fun h2 => ?_)
  · refine J.to 14 [true] 65 [(1, .bp 1 0), (2, .v (.bool false))] [(2, .some false)] [(1, .box 28 [.slice A (List.length (Sg.acc s)) ca, .slice B (List.length (Sg.mv s)) c, .int .i64 (Sg.done s), .bool (Sg.und s)])] [] (by kernel_rfl) ?_
    refine J.ret ⟨_, rfl, .inl ?_⟩
    show Value.bool false = Value.bool _
    rw [form_false]
    simp at h2
    simp [Sg.form]; omega
  refine J.to 5 [] 65 [(1, .bp 1 0), (2, .v (.bool false)), (10, .v (.slice A (List.length (Sg.acc s)) ca)), (19, .v (.bool false)), (21, .v (.int .i64 (Sg.done s))), (24, .v (.int .i64 (↑(List.length (Sg.mv s)) : Int)))] [(2, .some false), (19, .some false)] [(1, .box 28 [.slice A (List.length (Sg.acc s)) ca, .slice B (List.length (Sg.mv s)) c, .int .i64 (Sg.done s), .bool (Sg.und s)])] [] (by kernel_rfl) ?_
  refine J.one (Op1.call rfl rfl rfl rfl rfl rfl rfl rfl (l1In_ok _ _ _ U1) fun v U2 hx2 hv => ?_); subst hv
  refine J.to 3 [] 65 [(1, .bp 1 0), (2, .v (.bool false)), (27, .v (.bool !inB (Sg.done s) 0 (↑(List.length (Sg.mv s)) : Int)))] [(2, .some false)] [(1, .box 28 [.slice A (List.length (Sg.acc s)) ca, .slice B (List.length (Sg.mv s)) c, .int .i64 (Sg.done s), .bool (Sg.und s)])] [] (by kernel_rfl) ?_
  refine J.br rfl rfl (fun h3 => ?_) (fun h3 => ?_)
  · refine J.to 5 [true] 65 [(1, .bp 1 0), (2, .v (.bool false))] [(2, .some false)] [(1, .box 28 [.slice A (List.length (Sg.acc s)) ca, .slice B (List.length (Sg.mv s)) c, .int .i64 (Sg.done s), .bool (Sg.und s)])] [] (by kernel_rfl) ?_
    refine J.ret ⟨_, rfl, .inl ?_⟩
    show Value.bool false = Value.bool _
    rw [form_false]
    simp at h3
    simp [Sg.form, h3]
  refine J.to 11 [false] 65 [(1, .bp 1 0), (2, .v (.bool false)), (29, .v (.slice B (List.length (Sg.mv s)) c)), (30, .v (.int .i64 (↑(List.length (Sg.mv s)) : Int))), (31, .v (.int .i64 0))] [(2, .some false)] [(1, .box 28 [.slice A (List.length (Sg.acc s)) ca, .slice B (List.length (Sg.mv s)) c, .int .i64 (Sg.done s), .bool (Sg.und s)])] [] (by kernel_rfl) ?_
  have hacc : accB s.acc = true := by simpa using h1
  have hlen : s.mv.length ≤ 20 := by simp at h2; omega
  have hin : inB s.done 0 s.mv.length = true := by simpa using h3
  have hal : s.acc.length ≤ 8 ∧ 1 ≤ s.acc.length := by
    simp only [accB, Bool.and_eq_true, inB_iff] at hacc; omega
  refine J.loopK 65 [] (fun i : Nat => [(1, .bp 1 0), (29, .v (.slice B s.mv.length c)), (30, .v (.int .i64 s.mv.length)), (31, .v (.int .i64 i))])
    (fun _ => [(1, .box 28 [.slice A s.acc.length ca, .slice B s.mv.length c, .int .i64 s.done, .bool s.und])])
    (fun i U' => i ≤ s.mv.length ∧ (s.mv.take i).all (mvB s.acc.length) = true ∧ Arr rMv U' B s.mv ∧ Arr rInt U' A s.acc) (fun i => s.mv.length - i) 0 ⟨Nat.zero_le _, rfl, hB.mono (hx1.trans hx2), hA.mono (hx1.trans hx2)⟩ (by kernel_rfl) fun i U3 ⟨i1, i2, hB, hA⟩ hx3 => ?_
  refine J.to 5 [] 65 [(1, .bp 1 0), (29, .v (.slice B (List.length (Sg.mv s)) c)), (30, .v (.int .i64 (↑(List.length (Sg.mv s)) : Int))), (31, .v (.int .i64 (↑i : Int))), (32, .v (.bool (Decidable.decide ((↑i : Int) < (↑(List.length (Sg.mv s)) : Int)))))] [] [(1, .box 28 [.slice A (List.length (Sg.acc s)) ca, .slice B (List.length (Sg.mv s)) c, .int .i64 (Sg.done s), .bool (Sg.und s)])] [] (by kernel_rfl) ?_
  refine J.br rfl rfl (fun hb => ?_) (fun hb => ?_)
  · refine J.to 6 [true] 65 [(1, .bp 1 0), (29, .v (.slice B (List.length (Sg.mv s)) c)), (30, .v (.int .i64 (↑(List.length (Sg.mv s)) : Int))), (31, .v (.int .i64 (↑i : Int)))] [] [(1, .box 28 [.slice A (List.length (Sg.acc s)) ca, .slice B (List.length (Sg.mv s)) c, .int .i64 (Sg.done s), .bool (Sg.und s)])] [] (by kernel_rfl) ?_
    replace hb : (i : Int) < s.mv.length := of_decide_eq_true hb
    have hlt : i < s.mv.length := by omega
    refine J.one (Op1.index (r := rMv) rfl rfl rfl rfl rfl ⟨_, _, _, _, _, rfl, rfl, rfl⟩ rfl rfl hB (by omega) hb fun q b o' cs hq hcs => ?_)
    subst hcs
    have hq' : s.mv[i] = q := by
      have := (List.getElem?_eq_some_iff.1 hq).2
      simpa using this
    have htake : s.mv.take (i + 1) = s.mv.take i ++ [q] := by rw [← hq', List.take_succ_eq_append_getElem hlt]
    refine J.to 10 [] 65 [(1, .bp 1 0), (29, .v (.slice B (List.length (Sg.mv s)) c)), (30, .v (.int .i64 (↑(List.length (Sg.mv s)) : Int))), (31, .v (.int .i64 (↑i : Int))), (35, .v (.agg (Array.mk [.int .i64 (Mv.a q), .int .i64 (Mv.b q), .int .i64 (Mv.n q)]))), (38, .v (.int .i64 (↑(List.length (Sg.acc s)) : Int)))] [] [(1, .box 28 [.slice A (List.length (Sg.acc s)) ca, .slice B (List.length (Sg.mv s)) c, .int .i64 (Sg.done s), .bool (Sg.und s)])] [] (by kernel_rfl) ?_
    refine J.one (Op1.call rfl rfl rfl rfl rfl rfl rfl rfl (l9Move_ok q _ U3) fun v U4 hx4 hv => ?_); subst hv
    refine J.to 2 [] 65 [(1, .bp 1 0), (29, .v (.slice B (List.length (Sg.mv s)) c)), (30, .v (.int .i64 (↑(List.length (Sg.mv s)) : Int))), (31, .v (.int .i64 (↑i : Int))), (40, .v (.bool !mvB (↑(List.length (Sg.acc s)) : Int) q))] [] [(1, .box 28 [.slice A (List.length (Sg.acc s)) ca, .slice B (List.length (Sg.mv s)) c, .int .i64 (Sg.done s), .bool (Sg.und s)])] [] (by kernel_rfl) ?_
    refine J.br rfl rfl (fun hb => ?_) (fun hb => ?_)
    · refine J.to 5 [true] 65 [(1, .bp 1 0), (29, .v (.slice B (List.length (Sg.mv s)) c)), (30, .v (.int .i64 (↑(List.length (Sg.mv s)) : Int))), (31, .v (.int .i64 (↑i : Int))), (2, .v (.bool false))] [(2, .some false)] [(1, .box 28 [.slice A (List.length (Sg.acc s)) ca, .slice B (List.length (Sg.mv s)) c, .int .i64 (Sg.done s), .bool (Sg.und s)])] [] (by kernel_rfl) ?_
      refine J.ret ⟨_, rfl, .inl ?_⟩
      show Value.bool false = Value.bool _
      have hb : mvB s.acc.length q = false := by simpa using hb
      rw [form_false]
      have : s.mv.all (mvB s.acc.length) = false := by
        rw [List.all_eq_false]
        exact ⟨q, hq' ▸ List.getElem_mem hlt, by simp [hb]⟩
      simp [Sg.form, this]
    · refine J.to 7 [false] 65 [(1, .bp 1 0), (29, .v (.slice B (List.length (Sg.mv s)) c)), (30, .v (.int .i64 (↑(List.length (Sg.mv s)) : Int))), (31, .v (.int .i64 (IntKind.wrap .i64 ((↑i : Int) + 1))))] [] [(1, .box 28 [.slice A (List.length (Sg.acc s)) ca, .slice B (List.length (Sg.mv s)) c, .int .i64 (Sg.done s), .bool (Sg.und s)])] [] (by kernel_rfl) ?_
      have hb : mvB s.acc.length q = true := by simpa using hb
      rw [show IntKind.wrap .i64 ((i : Int) + 1) = ((i + 1 : Nat) : Int) from wr_id (by omega)]
      refine J.againK (i + 1) (by kernel_rfl) ⟨by omega, ?_, hB.mono hx4, hA.mono hx4⟩ (by omega)
      rw [htake, List.all_append, i2]
      simp [hb]
  · refine J.to 17 [false] 65 [(1, .bp 1 0), (5, .v (.slice A (List.length (Sg.acc s)) ca)), (6, .v (.int .i64 (IntKind.wrap .i64 (Sg.done s - 1))))] [] [(1, .box 28 [.slice A (List.length (Sg.acc s)) ca, .slice B (List.length (Sg.mv s)) c, .int .i64 (Sg.done s), .bool (Sg.und s)])] [] (by kernel_rfl) ?_
    replace hb : ¬ (i : Int) < s.mv.length := of_decide_eq_false hb
    obtain rfl : i = s.mv.length := by omega
    rw [List.take_length] at i2
    have hform : s.form = true := by simp [Sg.form, hacc, hlen, hin, i2]
    have hd : 0 ≤ s.done ∧ s.done ≤ s.mv.length := inB_iff.1 hin
    rw [show IntKind.wrap .i64 (s.done - 1) = ((s.done.toNat : Nat) : Int) - 1 from (wr_id (by omega)).trans (by omega)]
    refine J.loopK 65 [] (fun x : Nat × List Int × Option Addr × Nat => [(1, .bp 1 0), (5, .v (.slice x.2.2.1 x.2.1.length x.2.2.2)), (6, .v (.int .i64 ((x.1 : Int) - 1)))])
      (fun _ => [(1, .box 28 [.slice A s.acc.length ca, .slice B s.mv.length c, .int .i64 s.done, .bool s.und])])
      (fun x U' => x.1 ≤ s.done.toNat ∧ undo s.mv s.done.toNat s.acc = undo s.mv x.1 x.2.1 ∧ x.2.1.length = s.acc.length ∧ x.2.1.length ≤ x.2.2.2 ∧ Arr rMv U' B s.mv ∧ Arr rInt U' x.2.2.1 x.2.1) (fun x => x.1) (s.done.toNat, s.acc, A, ca)
      ⟨Nat.le_refl _, rfl, rfl, hca, hB, hA⟩ (by kernel_rfl) ?_
    rintro ⟨k, l, A', ca'⟩ U4 ⟨k1, k2, k3, k4, hB, hA'⟩ hx4
    simp only at k1 k2 k3 k4 hA'
    refine J.to 6 [] 65 [(1, .bp 1 0), (5, .v (.slice A' (List.length l) ca')), (6, .v (.int .i64 ((↑k : Int) - 1))), (48, .v (.bool (Decidable.decide ((↑k : Int) - 1 ≥ 0))))] [] [(1, .box 28 [.slice A (List.length (Sg.acc s)) ca, .slice B (List.length (Sg.mv s)) c, .int .i64 (Sg.done s), .bool (Sg.und s)])] [] (by kernel_rfl) ?_
    refine J.br rfl rfl (fun hb => ?_) (fun hb => ?_)
    · replace hb : (k : Int) - 1 ≥ 0 := of_decide_eq_true hb
      obtain ⟨j, rfl⟩ : ∃ j, k = j + 1 := ⟨k - 1, by omega⟩
      rw [show ((j + 1 : Nat) : Int) - 1 = (j : Int) by omega]
      refine J.to 10 [true] 65 [(1, .bp 1 0), (5, .v (.slice A' (List.length l) ca')), (6, .v (.int .i64 (↑j : Int))), (52, .v (.slice A' (List.length l) ca')), (54, .v (.slice B (List.length (Sg.mv s)) c)), (55, .v (.int .i64 (↑j : Int)))] [] [(1, .box 28 [.slice A (List.length (Sg.acc s)) ca, .slice B (List.length (Sg.mv s)) c, .int .i64 (Sg.done s), .bool (Sg.und s)])] [] (by kernel_rfl) ?_
      have hlt : j < s.mv.length := by omega
      refine J.one (Op1.index (r := rMv) rfl rfl rfl rfl rfl ⟨_, _, _, _, _, rfl, rfl, rfl⟩ rfl rfl hB (by omega) (by omega) fun q b o' cs hq hcs => ?_)
      subst hcs
      have hq' : s.mv.getD j ⟨0, 0, 0⟩ = q := by
        rw [List.getD_eq_getElem?_getD, show s.mv[j]? = some q by simpa using hq]; rfl
      have hqm : mvB s.acc.length q = true := List.all_eq_true.1 i2 q (List.mem_of_getElem? hq)
      obtain ⟨m1, m2, m3, m4, m5⟩ := mvB_some (by omega) hqm
      refine J.to 1 [] 65 [(1, .bp 1 0), (5, .v (.slice A' (List.length l) ca')), (6, .v (.int .i64 (↑j : Int))), (52, .v (.slice A' (List.length l) ca')), (57, .v (.agg (Array.mk [.int .i64 (Mv.a q), .int .i64 (Mv.b q), .int .i64 (Mv.n q)])))] [] [(1, .box 28 [.slice A (List.length (Sg.acc s)) ca, .slice B (List.length (Sg.mv s)) c, .int .i64 (Sg.done s), .bool (Sg.und s)])] [] (by kernel_rfl) ?_
      refine J.one (Op1.call rfl rfl rfl rfl rfl rfl rfl rfl (l9Back_ok q _) fun v U5 hx5 hv => ?_); subst hv
      refine J.to 0 [] 65 [(1, .bp 1 0), (5, .v (.slice A' (List.length l) ca')), (6, .v (.int .i64 (↑j : Int))), (52, .v (.slice A' (List.length l) ca')), (58, .v (.agg (Array.mk [.int .i64 (Mv.a (Mv.back q)), .int .i64 (Mv.b (Mv.back q)), .int .i64 (Mv.n (Mv.back q))])))] [] [(1, .box 28 [.slice A (List.length (Sg.acc s)) ca, .slice B (List.length (Sg.mv s)) c, .int .i64 (Sg.done s), .bool (Sg.und s)])] [] (by kernel_rfl) ?_
      refine J.one (Op1.call rfl rfl rfl rfl rfl rfl rfl rfl (l9Do_ok _ l q.back _ ⟨A', ca', rfl, k4, hA'.mono hx5⟩ (by omega) (by simp only [Mv.back]; omega) (by simp only [Mv.back]; omega)) fun v U6 hx6 ⟨v', hv, hrd⟩ => ?_); subst hv
      refine J.to 12 [] 65 [(1, .bp 1 0), (5, .v (.slice A' (List.length l) ca')), (6, .v (.int .i64 (↑j : Int))), (7, .v v'), (63, .v (.bool !doOk l (Mv.back q)))] [] [(1, .box 28 [.slice A (List.length (Sg.acc s)) ca, .slice B (List.length (Sg.mv s)) c, .int .i64 (Sg.done s), .bool (Sg.und s)])] [] (by kernel_rfl) ?_
      refine J.br rfl rfl (fun hb => ?_) (fun hb => ?_)
      · refine J.to 5 [true] 65 [(1, .bp 1 0), (5, .v (.slice A' (List.length l) ca')), (6, .v (.int .i64 (↑j : Int))), (7, .v v'), (2, .v (.bool false))] [(2, .some false)] [(1, .box 28 [.slice A (List.length (Sg.acc s)) ca, .slice B (List.length (Sg.mv s)) c, .int .i64 (Sg.done s), .bool (Sg.und s)])] [] (by kernel_rfl) ?_
        refine J.ret ⟨_, rfl, .inl ?_⟩
        show Value.bool false = Value.bool _
        have hb : doOk l q.back = false := by simpa using hb
        rw [Sg.good, k2, undo, hq', hb]; simp
      · refine J.to 12 [false] 65 [(1, .bp 1 0), (5, .v v'), (6, .v (.int .i64 (IntKind.wrap .i64 ((↑j : Int) - 1))))] [] [(1, .box 28 [.slice A (List.length (Sg.acc s)) ca, .slice B (List.length (Sg.mv s)) c, .int .i64 (Sg.done s), .bool (Sg.und s)])] [] (by kernel_rfl) ?_
        have hb : doOk l q.back = true := by simpa using hb
        obtain ⟨A2, c2, rfl, hc2, hA2⟩ := hrd
        rw [show IntKind.wrap .i64 ((j : Int) - 1) = (j : Int) - 1 from wr_id (by omega)]
        refine J.againK (j, doL l q.back, A2, c2) (by kernel_rfl) ⟨by simp only; omega, ?_, by simp only [doL_len]; exact k3, hc2, hB.mono (hx5.trans hx6), hA2⟩ (by simp only; omega)
        simp only
        rw [k2, undo, hq', hb]; simp
    · refine J.to 6 [false] 65 [(2, .v (.bool true))] [(2, .some true)] [] [] (by kernel_rfl) ?_
      refine J.ret ⟨_, rfl, .inl ?_⟩
      show Value.bool true = Value.bool _
      replace hb : ¬ (k : Int) - 1 ≥ 0 := of_decide_eq_false hb
      obtain rfl : k = 0 := by omega
      rw [Sg.good, hform, k2]; rfl

theorem l9Own_ok (va vm : Value) (s : Sg) (U : Hp) (ha : Rd rInt U va s.acc) (hm : Rd rMv U vm s.mv) (hb : s.acc.length < 2^40) (hb2 : s.mv.length < 2^40) :
    PCall Try.prog 29 #[.agg #[va, vm, .int .i64 s.done, .bool s.und]] U fun r U' => ∃ va' vm', r = .agg #[va', vm', .int .i64 s.done, .bool s.und] ∧ Rd rInt U' va' s.acc ∧ Rd rMv U' vm' s.mv := by
  refine OCall.of (args := [.agg #[va, vm, .int .i64 s.done, .bool s.und]]) E_ok mix Try.func29 (by kernel_rfl) rfl Try.ntmps29 (Nat.le_of_ble_eq_true rfl) fun F w0 => ?_
  refine J.to 7 [] 14 [(1, .bp 1 0), (2, .bp 2 0)] [] [(1, .box 28 [va, vm, .int .i64 (Sg.done s), .bool (Sg.und s)]), (2, .box 28 [.slice .none 0 0, .slice .none 0 0, .int .i64 0, .bool false])] [] (by kernel_rfl) ?_
  refine J.one (Op1.buildSlice (pv := []) (cells := []) (zz := .int .i64 0) rfl rfl rfl rfl rfl ⟨_,_,_,_,_,rfl,rfl⟩ (by decide) (by decide) rfl rfl rfl fun g0 => ?_)
  refine J.to 2 [] 14 [(1, .bp 1 0), (2, .bp 2 0), (3, .v (.slice (.some (Addr.mk g0 0 .none)) 0 0)), (5, .v va)] [] [(1, .box 28 [va, vm, .int .i64 (Sg.done s), .bool (Sg.und s)]), (2, .box 28 [.slice .none 0 0, .slice .none 0 0, .int .i64 0, .bool false]), (3, .own (arr (.slice (.some (Addr.mk g0 0 .none)) 0 0) 3 1 0 []))] [] (by kernel_rfl) ?_
  refine J.one (Op1.append (t := 23) (e := 3) (k := 3) (news := intC s.acc) (m := s.acc.length) (bytes := 8) rfl rfl rfl rfl rfl rfl rfl rfl ⟨_,_,_,rfl⟩ rfl rfl rfl (by decide) rfl rfl ?_ (by simp [intC]) (by simp [intC, Value.oneCell']) (by omega) (by omega) fun v' hv' => ?_)
  · exact J.src_rd rfl ha (by intro i q cs hi hr; cases hr; exact intC_drop _ i q hi) (by simp [intC, rInt, Rp.int]) (by decide)
  refine J.pub (k := 6) rfl fun U1 L1 hx1 hl1 hp1 => ?_
  rw [Nat.zero_add, List.nil_append] at hp1
  obtain ⟨A1, c1, rfl, hc1, hA1⟩ := int_rd hp1 hl1
  refine J.to 5 [] 14 [(1, .bp 1 0), (2, .bp 2 0)] [] [(2, .box 28 [.slice .none 0 0, .slice .none 0 0, .int .i64 0, .bool false]), (1, .box 28 [.slice A1 (List.length (Sg.acc s)) c1, vm, .int .i64 (Sg.done s), .bool (Sg.und s)])] [] (by kernel_rfl) ?_
  refine J.one (Op1.buildSlice (len := 0) (size := 3) (pv := []) (cells := []) (zz := .agg #[.int .i64 0, .int .i64 0, .int .i64 0]) rfl rfl rfl rfl rfl ⟨_,_,_,_,_,rfl,rfl⟩ (by decide) (by decide) rfl rfl rfl fun g1 => ?_)
  refine J.to 2 [] 14 [(1, .bp 1 0), (2, .bp 2 0), (8, .v (.slice (.some (Addr.mk g1 0 .none)) 0 0)), (10, .v vm)] [] [(1, .box 28 [.slice A1 (List.length (Sg.acc s)) c1, vm, .int .i64 (Sg.done s), .bool (Sg.und s)]), (2, .box 28 [.slice .none 0 0, .slice .none 0 0, .int .i64 0, .bool false]), (8, .own (arr (.slice (.some (Addr.mk g1 0 .none)) 0 0) 59 3 0 []))] [] (by kernel_rfl) ?_
  refine J.one (Op1.append (t := 24) (e := 59) (k := 8) (news := mvC s.mv) (m := s.mv.length) (bytes := 24) rfl rfl rfl rfl rfl rfl rfl rfl ⟨_,_,_,rfl⟩ rfl rfl rfl (by decide) rfl rfl ?_ (mvC_len _) ?_ (by omega) (by omega) fun v2 hv2 => ?_)
  · exact J.src_rd rfl (hm.mono hx1) (by intro i q cs hi hr; cases hr; exact mvC_drop _ i q hi) (by rw [mvC_len]; rfl) (by decide)
  · intro u hu
    simp only [mvC, List.mem_flatMap] at hu
    obtain ⟨m, -, hm⟩ := hu
    simp only [Mv.cells, List.mem_cons, List.not_mem_nil, or_false] at hm
    rcases hm with rfl | rfl | rfl <;> rfl
  refine J.pub (k := 11) rfl fun U2 L2 hx2 hl2 hp2 => ?_
  rw [Nat.zero_add, List.nil_append] at hp2
  obtain ⟨A2, c2, rfl, hc2, hA2⟩ := mv_rd hp2 hl2
  refine J.to 8 [] 14 [(2, .bp 2 0)] [] [(2, .box 28 [.slice A1 (List.length (Sg.acc s)) c1, .slice A2 (List.length (Sg.mv s)) c2, .int .i64 (Sg.done s), .bool (Sg.und s)])] [] (by kernel_rfl) ?_
  refine J.ret ⟨_, rfl, .inl ⟨_, _, rfl, ⟨A1, c1, rfl, hc1, hA1.mono hx2⟩, ⟨A2, c2, rfl, hc2, hA2⟩⟩⟩

theorem l9Step_ok (va vm : Value) (s : Sg) (U : Hp) (ha : Rd rInt U va s.acc) (hm : Rd rMv U vm s.mv) (hf : s.form = true) :
    PCall Try.prog 35 #[.agg #[va, vm, .int .i64 s.done, .bool s.und]] U fun r U' => ∃ va' vm', r = .tuple #[.agg #[va', vm', .int .i64 s.step.1.done, .bool s.step.1.und], .bool s.step.2] ∧ Rd rInt U' va' s.step.1.acc ∧ Rd rMv U' vm' s.step.1.mv := by
  simp only [Sg.form, accB, Bool.and_eq_true, inB_iff, decide_eq_true_eq] at hf
  obtain ⟨⟨⟨⟨hacc, hal⟩, hml⟩, hd⟩, hmv⟩ := hf
  obtain ⟨B, c, rfl, hc, hB⟩ := hm
  obtain ⟨A, ca, rfl, hca, hA⟩ := ha
  refine OCall.of (args := [.agg #[.slice A s.acc.length ca, .slice B s.mv.length c, .int .i64 s.done, .bool s.und]]) E_ok mix Try.func35 (by kernel_rfl) rfl Try.ntmps35 (Nat.le_of_ble_eq_true rfl) fun F w0 => ?_
  refine J.to 12 [] 61 [(1, .bp 1 0), (2, .bp 2 0), (3, .v (.bool false)), (7, .v (.bool (Sg.und s)))] [(3, .some false)] [(1, .box 28 [.slice A (List.length (Sg.acc s)) ca, .slice B (List.length (Sg.mv s)) c, .int .i64 (Sg.done s), .bool (Sg.und s)]), (2, .box 28 [.slice .none 0 0, .slice .none 0 0, .int .i64 0, .bool false])] [] (by kernel_rfl) ?_
  refine J.br rfl rfl (fun h1 => ?_) (fun h1 => ?_)
  · refine J.to 8 [true] 61 [(1, .bp 1 0), (2, .bp 2 0), (3, .v (.bool false)), (10, .v (.bool (Sg.done s == 0)))] [(3, .some false)] [(1, .box 28 [.slice A (List.length (Sg.acc s)) ca, .slice B (List.length (Sg.mv s)) c, .int .i64 (Sg.done s), .bool (Sg.und s)]), (2, .box 28 [.slice .none 0 0, .slice .none 0 0, .int .i64 0, .bool false])] [] (by kernel_rfl) ?_
    refine J.br rfl rfl (fun h2 => ?_) (fun h2 => ?_)
    · refine J.to 7 [true] 61 [(1, .bp 1 0), (2, .bp 2 0), (3, .v (.bool false))] [(3, .some false)] [(1, .box 28 [.slice A (List.length (Sg.acc s)) ca, .slice B (List.length (Sg.mv s)) c, .int .i64 (Sg.done s), .bool (Sg.und s)]), (2, .box 28 [.slice A (List.length (Sg.acc s)) ca, .slice B (List.length (Sg.mv s)) c, .int .i64 (Sg.done s), .bool (Sg.und s)])] [] (by kernel_rfl) ?_
      have h2 : s.done = 0 := by simpa using h2
      have e : s.step = (s, false) := by simp [Sg.step, h1, h2]
      refine J.ret ⟨_, rfl, .inl ⟨.slice A s.acc.length ca, .slice B s.mv.length c, ?_, ?_, ?_⟩⟩
      · rw [e]; rfl
      · rw [e]; exact ⟨A, ca, rfl, hca, hA⟩
      · rw [e]; exact ⟨B, c, rfl, hc, hB⟩
    · refine J.to 11 [false] 61 [(1, .bp 1 0), (2, .bp 2 0), (3, .v (.bool false))] [(3, .some false)] [(2, .box 28 [.slice .none 0 0, .slice .none 0 0, .int .i64 0, .bool false]), (1, .box 28 [.slice A (List.length (Sg.acc s)) ca, .slice B (List.length (Sg.mv s)) c, .int .i64 (IntKind.wrap .i64 (Sg.done s - 1)), .bool (Sg.und s)])] [] (by kernel_rfl) ?_
      have h2 : s.done ≠ 0 := by simpa using h2
      have ew : wr (s.done - 1) = s.done - 1 := wr_id (by omega)
      refine J.any [1] [11, 12, 13, 14] [] trivial fun ρ1 _ => ?_
      refine J.takeTo true [0, 1, 2, 3, 4, 5] 9 61 [(1, .bp 1 0), (2, .bp 2 0), (3, .v (.bool false)), (17, .bp 1 0), (18, .v (.slice A (List.length (Sg.acc s)) ca)), (19, .bp 1 1), (20, .v (.slice B (List.length (Sg.mv s)) c)), (21, .bp 1 2), (22, .v (.int .i64 (IntKind.wrap .i64 (Sg.done s - 1))))] [(3, .some false)] [(1, .box 28 [.slice A (List.length (Sg.acc s)) ca, .slice B (List.length (Sg.mv s)) c, .int .i64 (IntKind.wrap .i64 (Sg.done s - 1)), .bool (Sg.und s)]), (2, .box 28 [.slice .none 0 0, .slice .none 0 0, .int .i64 0, .bool false])] [(1, .some (ρ1 1)), (2, .some (ρ1 2))] (by first | exact Ext.refl _ | assumption | exact Ext.trans (by assumption) (by assumption)) (fun h => rfl) ⟨⟨rfl, rfl⟩, trivial⟩ rfl (by kernel_rfl) ?_
      refine J.aone (i := 6) (by kernel_rfl) (Op1.index (r := rMv) rfl rfl rfl rfl rfl ⟨_, _, _, _, _, rfl, rfl, rfl⟩ rfl rfl hB (by rw [show IntKind.wrap .i64 (s.done - 1) = s.done - 1 from ew]; omega) (by rw [show IntKind.wrap .i64 (s.done - 1) = s.done - 1 from ew]; omega) fun q b o' cs hq hcs => ⟨fun _ => ⟨Ext.refl _, ⟨rfl, rfl⟩, trivial⟩, ?_⟩)
      subst hcs
      rw [show IntKind.wrap .i64 (s.done - 1) = s.done - 1 from ew] at hq
      have hq' : s.mv.getD (s.done - 1).toNat ⟨0, 0, 0⟩ = q := by
        rw [List.getD_eq_getElem?_getD, hq]; rfl
      have hqm : mvB s.acc.length q = true := List.all_eq_true.1 hmv q (List.mem_of_getElem? hq)
      obtain ⟨m1, m2, m3, m4, m5⟩ := mvB_some (by omega) hqm
      refine J.takeTo true [7] 7 61 [(1, .bp 1 0), (2, .bp 2 0), (3, .v (.bool false)), (17, .bp 1 0), (18, .v (.slice A (List.length (Sg.acc s)) ca)), (19, .bp 1 1), (20, .v (.slice B (List.length (Sg.mv s)) c)), (21, .bp 1 2), (22, .v (.int .i64 (IntKind.wrap .i64 (Sg.done s - 1)))), (23, .win b o' [.int .i64 (Mv.a q), .int .i64 (Mv.b q), .int .i64 (Mv.n q)] 0), (24, .v (.agg (Array.mk [.int .i64 (Mv.a q), .int .i64 (Mv.b q), .int .i64 (Mv.n q)])))] [(3, .some false)] [(1, .box 28 [.slice A (List.length (Sg.acc s)) ca, .slice B (List.length (Sg.mv s)) c, .int .i64 (IntKind.wrap .i64 (Sg.done s - 1)), .bool (Sg.und s)]), (2, .box 28 [.slice .none 0 0, .slice .none 0 0, .int .i64 0, .bool false])] [(1, .some (ρ1 1)), (2, .some (ρ1 2))] (by first | exact Ext.refl _ | assumption | exact Ext.trans (by assumption) (by assumption)) (fun h => rfl) ⟨⟨rfl, rfl⟩, trivial⟩ rfl (by kernel_rfl) ?_
      refine J.aone (i := 8) (by kernel_rfl) (Op1.call rfl rfl rfl rfl rfl rfl rfl rfl (l9Back_ok q _) fun v U5 hx5 hv => ⟨fun _ => ⟨hx5, ⟨rfl, rfl⟩, trivial⟩, ?_⟩); subst hv
      refine J.aone (i := 9) (by kernel_rfl) (Op1.call rfl rfl rfl rfl rfl rfl rfl rfl (l9Do_ok _ s.acc q.back _ ⟨A, ca, rfl, hca, hA.mono hx5⟩ (by omega) (by simp only [Mv.back]; omega) (by simp only [Mv.back]; omega)) fun v U6 hx6 ⟨v', hv, hrd⟩ => ⟨fun _ => ⟨hx5.trans hx6, ⟨rfl, rfl⟩, trivial⟩, ?_⟩); subst hv
      obtain ⟨A2, c2, rfl, hc2, hA2⟩ := hrd
      refine J.takeTo false [10, 11, 12, 13] 1 61 [(1, .bp 1 0), (2, .bp 2 0), (3, .v (.bool false)), (17, .bp 1 0), (18, .v (.slice A (List.length (Sg.acc s)) ca)), (19, .bp 1 1), (20, .v (.slice B (List.length (Sg.mv s)) c)), (21, .bp 1 2), (22, .v (.int .i64 (IntKind.wrap .i64 (Sg.done s - 1)))), (23, .win b o' [.int .i64 (Mv.a q), .int .i64 (Mv.b q), .int .i64 (Mv.n q)] 0), (24, .v (.agg (Array.mk [.int .i64 (Mv.a q), .int .i64 (Mv.b q), .int .i64 (Mv.n q)]))), (25, .v (.agg (Array.mk [.int .i64 (Mv.a (Mv.back q)), .int .i64 (Mv.b (Mv.back q)), .int .i64 (Mv.n (Mv.back q))]))), (26, .v (.tuple (Array.mk [.slice A2 (List.length (doL (Sg.acc s) (Mv.back q))) c2, .bool (doOk (Sg.acc s) (Mv.back q))]))), (16, .v (.tuple (Array.mk [.slice A2 (List.length (doL (Sg.acc s) (Mv.back q))) c2, .bool (doOk (Sg.acc s) (Mv.back q))]))), (27, .v (.slice A2 (List.length (doL (Sg.acc s) (Mv.back q))) c2)), (29, .bp 1 0)] [(3, .some false)] [(1, .box 28 [.slice A (List.length (Sg.acc s)) ca, .slice B (List.length (Sg.mv s)) c, .int .i64 (IntKind.wrap .i64 (Sg.done s - 1)), .bool (Sg.und s)]), (2, .box 28 [.slice .none 0 0, .slice .none 0 0, .int .i64 0, .bool false])] [(1, .some (ρ1 1)), (2, .some (ρ1 2))] (by first | exact Ext.refl _ | assumption | exact Ext.trans (by assumption) (by assumption)) (fun h => by cases h) ⟨⟨rfl, rfl⟩, trivial⟩ rfl (by kernel_rfl) ?_
      refine J.aone (i := 14) (by kernel_rfl) (Op1.step rfl rfl rfl ⟨nofun, ?_⟩)
      refine J.adone' (by kernel_rfl) ?_
      refine J.to 6 [] 61 [(1, .bp 1 0), (2, .bp 2 0), (3, .v (.bool true))] [(3, .some true)] [(1, .box 28 [.slice A2 (List.length (doL (Sg.acc s) (Mv.back q))) c2, .slice B (List.length (Sg.mv s)) c, .int .i64 (IntKind.wrap .i64 (Sg.done s - 1)), .bool (Sg.und s)]), (2, .box 28 [.slice A2 (List.length (doL (Sg.acc s) (Mv.back q))) c2, .slice B (List.length (Sg.mv s)) c, .int .i64 (IntKind.wrap .i64 (Sg.done s - 1)), .bool (Sg.und s)])] [(1, .some (ρ1 1)), (2, .some (ρ1 2))] (by kernel_rfl) ?_
      have e : s.step = ({ s with done := wr (s.done - 1), acc := doL s.acc q.back }, true) := by simp only [Sg.step, h1, h2, if_true, if_false, hq']
      refine J.ret ⟨_, rfl, .inl ⟨.slice A2 (doL s.acc q.back).length c2, .slice B s.mv.length c, ?_, ?_, ?_⟩⟩
      · rw [e]; rfl
      · rw [e]; exact ⟨A2, c2, rfl, hc2, hA2⟩
      · rw [e]; exact ⟨B, c, rfl, hc, hB.mono (hx5.trans hx6)⟩
  · refine J.to 12 [false] 61 [(1, .bp 1 0), (2, .bp 2 0), (3, .v (.bool false)), (36, .v (.bool (Sg.done s == (↑(List.length (Sg.mv s)) : Int))))] [(3, .some false)] [(1, .box 28 [.slice A (List.length (Sg.acc s)) ca, .slice B (List.length (Sg.mv s)) c, .int .i64 (Sg.done s), .bool (Sg.und s)]), (2, .box 28 [.slice .none 0 0, .slice .none 0 0, .int .i64 0, .bool false])] [] (by kernel_rfl) ?_
    have h1 : s.und = false := by simpa using h1
    refine J.br rfl rfl (fun h2 => ?_) (fun h2 => ?_)
    · refine J.to 7 [true] 61 [(1, .bp 1 0), (2, .bp 2 0), (3, .v (.bool false))] [(3, .some false)] [(1, .box 28 [.slice A (List.length (Sg.acc s)) ca, .slice B (List.length (Sg.mv s)) c, .int .i64 (Sg.done s), .bool (Sg.und s)]), (2, .box 28 [.slice A (List.length (Sg.acc s)) ca, .slice B (List.length (Sg.mv s)) c, .int .i64 (Sg.done s), .bool (Sg.und s)])] [] (by kernel_rfl) ?_
      have h2 : s.done = s.mv.length := by simpa using h2
      have e : s.step = (s, false) := by simp [Sg.step, h1, h2]
      refine J.ret ⟨_, rfl, .inl ⟨.slice A s.acc.length ca, .slice B s.mv.length c, ?_, ?_, ?_⟩⟩
      · rw [e]; rfl
      · rw [e]; exact ⟨A, ca, rfl, hca, hA⟩
      · rw [e]; exact ⟨B, c, rfl, hc, hB⟩
    · refine J.to 3 [false] 61 [(1, .bp 1 0), (2, .bp 2 0), (3, .v (.bool false))] [(3, .some false)] [(1, .box 28 [.slice A (List.length (Sg.acc s)) ca, .slice B (List.length (Sg.mv s)) c, .int .i64 (Sg.done s), .bool (Sg.und s)]), (2, .box 28 [.slice .none 0 0, .slice .none 0 0, .int .i64 0, .bool false])] [] (by kernel_rfl) ?_
      have h2 : s.done ≠ s.mv.length := by simpa using h2
      refine J.any [1] [9, 10, 11, 12, 13] [] trivial fun ρ1 _ => ?_
      refine J.takeTo true [0, 1, 2, 3, 4, 5] 8 61 [(1, .bp 1 0), (2, .bp 2 0), (3, .v (.bool false)), (39, .bp 1 0), (40, .v (.slice A (List.length (Sg.acc s)) ca)), (41, .bp 1 1), (42, .v (.slice B (List.length (Sg.mv s)) c)), (43, .bp 1 2), (44, .v (.int .i64 (Sg.done s)))] [(3, .some false)] [(1, .box 28 [.slice A (List.length (Sg.acc s)) ca, .slice B (List.length (Sg.mv s)) c, .int .i64 (Sg.done s), .bool (Sg.und s)]), (2, .box 28 [.slice .none 0 0, .slice .none 0 0, .int .i64 0, .bool false])] [(1, .some (ρ1 1)), (2, .some (ρ1 2))] (by first | exact Ext.refl _ | assumption | exact Ext.trans (by assumption) (by assumption)) (fun h => rfl) ⟨⟨rfl, rfl⟩, trivial⟩ rfl (by kernel_rfl) ?_
      refine J.aone (i := 6) (by kernel_rfl) (Op1.index (r := rMv) rfl rfl rfl rfl rfl ⟨_, _, _, _, _, rfl, rfl, rfl⟩ rfl rfl hB (by omega) (by omega) fun q b o' cs hq hcs => ⟨fun _ => ⟨Ext.refl _, ⟨rfl, rfl⟩, trivial⟩, ?_⟩)
      subst hcs
      have hq' : s.mv.getD s.done.toNat ⟨0, 0, 0⟩ = q := by
        rw [List.getD_eq_getElem?_getD, hq]; rfl
      have hqm : mvB s.acc.length q = true := List.all_eq_true.1 hmv q (List.mem_of_getElem? hq)
      obtain ⟨m1, m2, m3, m4, m5⟩ := mvB_some (by omega) hqm
      refine J.takeTo true [7] 6 61 [(1, .bp 1 0), (2, .bp 2 0), (3, .v (.bool false)), (39, .bp 1 0), (40, .v (.slice A (List.length (Sg.acc s)) ca)), (41, .bp 1 1), (42, .v (.slice B (List.length (Sg.mv s)) c)), (43, .bp 1 2), (44, .v (.int .i64 (Sg.done s))), (45, .win b o' [.int .i64 (Mv.a q), .int .i64 (Mv.b q), .int .i64 (Mv.n q)] 0), (46, .v (.agg (Array.mk [.int .i64 (Mv.a q), .int .i64 (Mv.b q), .int .i64 (Mv.n q)])))] [(3, .some false)] [(1, .box 28 [.slice A (List.length (Sg.acc s)) ca, .slice B (List.length (Sg.mv s)) c, .int .i64 (Sg.done s), .bool (Sg.und s)]), (2, .box 28 [.slice .none 0 0, .slice .none 0 0, .int .i64 0, .bool false])] [(1, .some (ρ1 1)), (2, .some (ρ1 2))] (by first | exact Ext.refl _ | assumption | exact Ext.trans (by assumption) (by assumption)) (fun h => rfl) ⟨⟨rfl, rfl⟩, trivial⟩ rfl (by kernel_rfl) ?_
      refine J.aone (i := 8) (by kernel_rfl) (Op1.call rfl rfl rfl rfl rfl rfl rfl rfl (l9Do_ok _ s.acc q _ ⟨A, ca, rfl, hca, hA⟩ (by omega) (by omega) (by omega)) fun v U6 hx6 ⟨v', hv, hrd⟩ => ⟨fun _ => ⟨hx6, ⟨rfl, rfl⟩, trivial⟩, ?_⟩); subst hv
      obtain ⟨A2, c2, rfl, hc2, hA2⟩ := hrd
      refine J.takeTo false [9, 10, 11, 12, 13] 0 61 [(1, .bp 1 0), (2, .bp 2 0), (3, .v (.bool false)), (39, .bp 1 0), (40, .v (.slice A (List.length (Sg.acc s)) ca)), (41, .bp 1 1), (42, .v (.slice B (List.length (Sg.mv s)) c)), (43, .bp 1 2), (44, .v (.int .i64 (Sg.done s))), (45, .win b o' [.int .i64 (Mv.a q), .int .i64 (Mv.b q), .int .i64 (Mv.n q)] 0), (46, .v (.agg (Array.mk [.int .i64 (Mv.a q), .int .i64 (Mv.b q), .int .i64 (Mv.n q)]))), (47, .v (.tuple (Array.mk [.slice A2 (List.length (doL (Sg.acc s) q)) c2, .bool (doOk (Sg.acc s) q)]))), (38, .v (.tuple (Array.mk [.slice A2 (List.length (doL (Sg.acc s) q)) c2, .bool (doOk (Sg.acc s) q)]))), (48, .v (.slice A2 (List.length (doL (Sg.acc s) q)) c2)), (49, .v (.bool (doOk (Sg.acc s) q))), (4, .v (.slice A2 (List.length (doL (Sg.acc s) q)) c2)), (5, .v (.bool (doOk (Sg.acc s) q)))] [(3, .some false)] [(1, .box 28 [.slice A (List.length (Sg.acc s)) ca, .slice B (List.length (Sg.mv s)) c, .int .i64 (Sg.done s), .bool (Sg.und s)]), (2, .box 28 [.slice .none 0 0, .slice .none 0 0, .int .i64 0, .bool false])] [(1, .some (ρ1 1)), (2, .some (ρ1 2))] (by first | exact Ext.refl _ | assumption | exact Ext.trans (by assumption) (by assumption)) (fun h => by cases h) ⟨⟨rfl, rfl⟩, trivial⟩ rfl (by kernel_rfl) ?_
      refine J.adone' (by kernel_rfl) ?_
      refine J.to 6 [] 61 [(1, .bp 1 0), (2, .bp 2 0), (3, .v (.bool false)), (4, .v (.slice A2 (List.length (doL (Sg.acc s) q)) c2)), (51, .v (.bool !doOk (Sg.acc s) q))] [(3, .some false)] [(1, .box 28 [.slice A (List.length (Sg.acc s)) ca, .slice B (List.length (Sg.mv s)) c, .int .i64 (Sg.done s), .bool (Sg.und s)]), (2, .box 28 [.slice .none 0 0, .slice .none 0 0, .int .i64 0, .bool false])] [(1, .some (ρ1 1)), (2, .some (ρ1 2))] (by kernel_rfl) ?_
      refine J.br rfl rfl (fun h3 => ?_) (fun h3 => ?_)
      · refine J.to 12 [true] 61 [(1, .bp 1 0), (2, .bp 2 0), (4, .v (.slice A2 (List.length (doL (Sg.acc s) q)) c2)), (3, .v (.bool true))] [(3, .some true)] [(1, .box 28 [.slice A (List.length (Sg.acc s)) ca, .slice B (List.length (Sg.mv s)) c, .int .i64 (Sg.done s), .bool true]), (2, .box 28 [.slice A (List.length (Sg.acc s)) ca, .slice B (List.length (Sg.mv s)) c, .int .i64 (Sg.done s), .bool true])] [(1, .some (ρ1 1)), (2, .some (ρ1 2))] (by kernel_rfl) ?_
        have h3 : doOk s.acc q = false := by simpa using h3
        have e : s.step = ({ s with und := true }, true) := by simp only [Sg.step, h1, h2, hq', h3, Bool.false_eq_true, if_false, if_true]
        refine J.ret ⟨_, rfl, .inl ⟨.slice A s.acc.length ca, .slice B s.mv.length c, ?_, ?_, ?_⟩⟩
        · rw [e]; rfl
        · rw [e]; exact ⟨A, ca, rfl, hca, hA.mono hx6⟩
        · rw [e]; exact ⟨B, c, rfl, hc, hB.mono hx6⟩
      · refine J.to 22 [false] 61 [(2, .bp 2 0), (3, .v (.bool true))] [(3, .some true)] [(1, .box 28 [.slice A2 (List.length (doL (Sg.acc s) q)) c2, .slice B (List.length (Sg.mv s)) c, .int .i64 (IntKind.wrap .i64 (Sg.done s + 1)), .bool (Sg.und s)]), (2, .box 28 [.slice A2 (List.length (doL (Sg.acc s) q)) c2, .slice B (List.length (Sg.mv s)) c, .int .i64 (IntKind.wrap .i64 (Sg.done s + 1)), .bool (Sg.und s)])] [(1, .some (ρ1 1)), (2, .some (ρ1 2))] (by kernel_rfl) ?_
        have h3 : doOk s.acc q = true := by simpa using h3
        have e : s.step = ({ s with acc := doL s.acc q, done := wr (s.done + 1) }, true) := by simp only [Sg.step, h1, h2, hq', h3, Bool.false_eq_true, if_false, if_true]
        refine J.ret ⟨_, rfl, .inl ⟨.slice A2 (doL s.acc q).length c2, .slice B s.mv.length c, ?_, ?_, ?_⟩⟩
        · rw [e]; simp only [← h1]; rfl
        · rw [e]; exact ⟨A2, c2, rfl, hc2, hA2⟩
        · rw [e]; exact ⟨B, c, rfl, hc, hB.mono hx6⟩

def specStep (s : Sg) : Sg × Bool := if s.good then (if s.step.2 && s.step.1.good then (s.step.1, true) else (Sg.zero, false)) else (Sg.zero, false)

theorem form_len {s : Sg} (h : s.form = true) : s.acc.length < 2^40 ∧ s.mv.length < 2^40 := by
  simp only [Sg.form, accB, Bool.and_eq_true, inB_iff, decide_eq_true_eq] at h; omega
theorem step_len (s : Sg) : s.step.1.acc.length = s.acc.length ∧ s.step.1.mv = s.mv := by
  unfold Sg.step
  split
  · split <;> simp [doL_len]
  · split
    · simp
    · split <;> simp [doL_len]

theorem specStep_ok (va vm : Value) (s : Sg) (U : Hp) (ha : Rd rInt U va s.acc) (hm : Rd rMv U vm s.mv) (hb : s.acc.length < 2^40) (hb2 : s.mv.length < 2^40) :
    PCall Try.prog 17 #[.agg #[va, vm, .int .i64 s.done, .bool s.und]] U fun r U' => ∃ va' vm', r = .tuple #[.agg #[va', vm', .int .i64 (specStep s).1.done, .bool (specStep s).1.und], .bool (specStep s).2] ∧ Rd rInt U' va' (specStep s).1.acc ∧ Rd rMv U' vm' (specStep s).1.mv := by
  refine OCall.of (args := [.agg #[va, vm, .int .i64 s.done, .bool s.und]]) E_ok mix Try.func17 (by kernel_rfl) rfl Try.ntmps17 (Nat.le_of_ble_eq_true rfl) fun F w0 => ?_
  have zero : ∀ U' : Hp, specStep s = (Sg.zero, false) → ∃ va' vm', Value.tuple #[.agg #[.slice none 0 0, .slice none 0 0, .int .i64 0, .bool false], .bool false] = .tuple #[.agg #[va', vm', .int .i64 (specStep s).1.done, .bool (specStep s).1.und], .bool (specStep s).2] ∧ Rd rInt U' va' (specStep s).1.acc ∧ Rd rMv U' vm' (specStep s).1.mv := by
    intro U' e
    rw [e]
    exact ⟨_, _, rfl, ⟨none, 0, rfl, Nat.le_refl _, .inl rfl⟩, ⟨none, 0, rfl, Nat.le_refl _, .inl rfl⟩⟩
  refine J.to 10 [] 25 [(1, .bp 1 0), (2, .bp 2 0), (3, .v (.bool false)), (6, .v (.agg (Array.mk [va, vm, .int .i64 (Sg.done s), .bool (Sg.und s)])))] [(3, .some false)] [(1, .box 28 [va, vm, .int .i64 (Sg.done s), .bool (Sg.und s)]), (2, .box 28 [.slice .none 0 0, .slice .none 0 0, .int .i64 0, .bool false])] [] (by kernel_rfl) ?_
  refine J.one (Op1.call rfl rfl rfl rfl rfl rfl rfl rfl (specGood_ok va vm s U ha hm hb hb2) fun v U1 hx1 hv => ?_); subst hv
  refine J.to 2 [] 25 [(1, .bp 1 0), (2, .bp 2 0), (3, .v (.bool false)), (8, .v (.bool !Sg.good s))] [(3, .some false)] [(1, .box 28 [va, vm, .int .i64 (Sg.done s), .bool (Sg.und s)]), (2, .box 28 [.slice .none 0 0, .slice .none 0 0, .int .i64 0, .bool false])] [] (by kernel_rfl) ?_
  refine J.br rfl rfl (fun h1 => ?_) (fun h1 => ?_)
  · refine J.to 7 [true] 25 [(1, .bp 1 0), (2, .bp 2 0), (3, .v (.bool false))] [(3, .some false)] [(1, .box 28 [va, vm, .int .i64 (Sg.done s), .bool (Sg.und s)]), (2, .box 28 [.slice .none 0 0, .slice .none 0 0, .int .i64 0, .bool false])] [] (by kernel_rfl) ?_
    have h1 : s.good = false := by simpa using h1
    exact J.ret ⟨_, rfl, .inl (zero _ (by simp [specStep, h1]))⟩
  refine J.to 5 [false] 25 [(2, .bp 2 0), (3, .v (.bool false)), (11, .v (.agg (Array.mk [va, vm, .int .i64 (Sg.done s), .bool (Sg.und s)])))] [(3, .some false)] [(2, .box 28 [.slice .none 0 0, .slice .none 0 0, .int .i64 0, .bool false])] [] (by kernel_rfl) ?_
  have h1 : s.good = true := by simpa using h1
  have hf : s.form = true := by simp only [Sg.good, Bool.and_eq_true] at h1; exact h1.1
  refine J.one (Op1.call rfl rfl rfl rfl rfl rfl rfl rfl (l9Own_ok va vm s U1 (ha.mono hx1) (hm.mono hx1) hb hb2) fun v U2 hx2 ⟨va2, vm2, hv, ha2, hm2⟩ => ?_); subst hv
  refine J.to 0 [] 25 [(2, .bp 2 0), (3, .v (.bool false)), (12, .v (.agg (Array.mk [va2, vm2, .int .i64 (Sg.done s), .bool (Sg.und s)])))] [(3, .some false)] [(2, .box 28 [.slice .none 0 0, .slice .none 0 0, .int .i64 0, .bool false])] [] (by kernel_rfl) ?_
  refine J.one (Op1.call rfl rfl rfl rfl rfl rfl rfl rfl (l9Step_ok va2 vm2 s U2 ha2 hm2 hf) fun v U3 hx3 ⟨va3, vm3, hv, ha3, hm3⟩ => ?_); subst hv
  obtain ⟨A3, ca3, rfl, hca3, hA3⟩ := ha3
  obtain ⟨B3, cb3, rfl, hcb3, hB3⟩ := hm3
  have sl := step_len s
  refine J.to 13 [] 25 [(2, .bp 2 0), (3, .v (.bool false)), (4, .bp 4 0), (18, .v (.bool !Prod.snd (Sg.step s)))] [(3, .some false)] [(2, .box 28 [.slice .none 0 0, .slice .none 0 0, .int .i64 0, .bool false]), (4, .box 28 [.slice A3 (List.length (Sg.acc (Prod.fst (Sg.step s)))) ca3, .slice B3 (List.length (Sg.mv (Prod.fst (Sg.step s)))) cb3, .int .i64 (Sg.done (Prod.fst (Sg.step s))), .bool (Sg.und (Prod.fst (Sg.step s)))])] [] (by kernel_rfl) ?_
  refine J.br rfl rfl (fun h2 => ?_) (fun h2 => ?_)
  · refine J.to 12 [true] 25 [(2, .bp 2 0), (4, .bp 4 0), (3, .v (.bool false))] [(3, .some false)] [(4, .box 28 [.slice A3 (List.length (Sg.acc (Prod.fst (Sg.step s)))) ca3, .slice B3 (List.length (Sg.mv (Prod.fst (Sg.step s)))) cb3, .int .i64 (Sg.done (Prod.fst (Sg.step s))), .bool (Sg.und (Prod.fst (Sg.step s)))]), (2, .box 28 [.slice .none 0 0, .slice .none 0 0, .int .i64 0, .bool false])] [] (by kernel_rfl) ?_
    have h2 : s.step.2 = false := by simpa using h2
    exact J.ret ⟨_, rfl, .inl (zero _ (by simp [specStep, h1, h2]))⟩
  refine J.to 1 [] 25 [(2, .bp 2 0), (3, .v (.bool false)), (4, .bp 4 0), (18, .v (.bool false)), (19, .v (.agg (Array.mk [.slice A3 (List.length (Sg.acc (Prod.fst (Sg.step s)))) ca3, .slice B3 (List.length (Sg.mv (Prod.fst (Sg.step s)))) cb3, .int .i64 (Sg.done (Prod.fst (Sg.step s))), .bool (Sg.und (Prod.fst (Sg.step s)))])))] [(3, .some false), (18, .some false)] [(2, .box 28 [.slice .none 0 0, .slice .none 0 0, .int .i64 0, .bool false]), (4, .box 28 [.slice A3 (List.length (Sg.acc (Prod.fst (Sg.step s)))) ca3, .slice B3 (List.length (Sg.mv (Prod.fst (Sg.step s)))) cb3, .int .i64 (Sg.done (Prod.fst (Sg.step s))), .bool (Sg.und (Prod.fst (Sg.step s)))])] [] (by kernel_rfl) ?_
  have h2 : s.step.2 = true := by simpa using h2
  refine J.one (Op1.call rfl rfl rfl rfl rfl rfl rfl rfl (specGood_ok _ _ s.step.1 U3 ⟨A3, ca3, rfl, hca3, hA3⟩ ⟨B3, cb3, rfl, hcb3, hB3⟩ (by omega) (by rw [sl.2]; exact hb2)) fun v U4 hx4 hv => ?_); subst hv
  refine J.to 3 [] 25 [(2, .bp 2 0), (3, .v (.bool false)), (4, .bp 4 0), (22, .v (.bool !Sg.good (Prod.fst (Sg.step s))))] [(3, .some false)] [(2, .box 28 [.slice .none 0 0, .slice .none 0 0, .int .i64 0, .bool false]), (4, .box 28 [.slice A3 (List.length (Sg.acc (Prod.fst (Sg.step s)))) ca3, .slice B3 (List.length (Sg.mv (Prod.fst (Sg.step s)))) cb3, .int .i64 (Sg.done (Prod.fst (Sg.step s))), .bool (Sg.und (Prod.fst (Sg.step s)))])] [] (by kernel_rfl) ?_
  refine J.br rfl rfl (fun h3 => ?_) (fun h3 => ?_)
  · refine J.to 7 [true] 25 [(2, .bp 2 0), (4, .bp 4 0), (3, .v (.bool false))] [(3, .some false)] [(4, .box 28 [.slice A3 (List.length (Sg.acc (Prod.fst (Sg.step s)))) ca3, .slice B3 (List.length (Sg.mv (Prod.fst (Sg.step s)))) cb3, .int .i64 (Sg.done (Prod.fst (Sg.step s))), .bool (Sg.und (Prod.fst (Sg.step s)))]), (2, .box 28 [.slice .none 0 0, .slice .none 0 0, .int .i64 0, .bool false])] [] (by kernel_rfl) ?_
    have h3 : s.step.1.good = false := by simpa using h3
    exact J.ret ⟨_, rfl, .inl (zero _ (by simp [specStep, h1, h2, h3]))⟩
  refine J.to 8 [false] 25 [(2, .bp 2 0), (3, .v (.bool true))] [(3, .some true)] [(2, .box 28 [.slice A3 (List.length (Sg.acc (Prod.fst (Sg.step s)))) ca3, .slice B3 (List.length (Sg.mv (Prod.fst (Sg.step s)))) cb3, .int .i64 (Sg.done (Prod.fst (Sg.step s))), .bool (Sg.und (Prod.fst (Sg.step s)))])] [] (by kernel_rfl) ?_
  have h3 : s.step.1.good = true := by simpa using h3
  have e : specStep s = (s.step.1, true) := by simp [specStep, h1, h2, h3]
  refine J.ret ⟨_, rfl, .inl ⟨.slice A3 s.step.1.acc.length ca3, .slice B3 s.step.1.mv.length cb3, ?_, ?_, ?_⟩⟩
  · rw [e]; rfl
  · rw [e]; exact ⟨A3, ca3, rfl, hca3, hA3.mono hx4⟩
  · rw [e]; exact ⟨B3, cb3, rfl, hcb3, hB3.mono hx4⟩
end Go.Rx
end

section
open Go Go.Rx Go.Proofs
set_option maxHeartbeats 1000000
namespace Go.Rx
theorem in_ok (n lo hi : Int) (U : Hp) : PCall Try.prog 40 #[.int .i64 n, .int .i64 lo, .int .i64 hi] U fun v U' => v = .bool (inB n lo hi) := by
  refine OCall.of (args := [.int .i64 n, .int .i64 lo, .int .i64 hi]) E_ok mix Try.func40 (by kernel_rfl) rfl Try.ntmps40 (Nat.le_of_ble_eq_true rfl) fun F w0 => ?_
  refine J.to 10 [] 15 [(0, .v (.int .i64 n)), (2, .v (.int .i64 hi)), (6, .v (.bool false)), (10, .v (.bool (Decidable.decide (n ≥ lo))))] [(6, .some false)] [] [] (by kernel_rfl) ?_
  refine J.br rfl rfl (fun h => ?_) (fun h => ?_)
  · refine J.to 6 [] 15 [(6, .v (.bool (Decidable.decide (n ≤ hi))))] [] [] [] (by kernel_rfl) ?_
    refine J.ret ⟨_, rfl, .inl ?_⟩
    show Value.bool _ = Value.bool _
    simp at h
    simp [inB, h]
  · refine J.to 6 [] 15 [(6, .v (.bool false))] [(6, .some false)] [] [] (by kernel_rfl) ?_
    refine J.ret ⟨_, rfl, .inl ?_⟩
    show Value.bool _ = Value.bool _
    simp at h
    simp [inB]
    omega

theorem accountOk_ok (n : Int) (U : Hp) : PCall Try.prog 67 #[.int .i64 n] U fun v U' => v = .bool (accOk n) := by
  refine OCall.of (args := [.int .i64 n]) E_ok mix Try.func67 (by kernel_rfl) rfl Try.ntmps67 (Nat.le_of_ble_eq_true rfl) fun F w0 => ?_
  refine J.to 7 [] 5 [(2, .v (.bool false)), (3, .v (.int .i64 n))] [(2, .some false)] [] [] (by kernel_rfl) ?_
  refine J.one (Op1.call rfl rfl rfl rfl rfl rfl rfl rfl (in_ok _ _ _ _) fun v U1 hx hv => ?_); subst hv
  refine J.to 2 [] 5 [(2, .v (.bool (inB n 0 1000000)))] [] [] [] (by kernel_rfl) ?_
  exact J.ret ⟨_, rfl, .inl rfl⟩

theorem notAccount_ok (n : Int) (U : Hp) : PCall Try.prog 66 #[.int .i64 n] U fun v U' => v = .bool (!accOk n) := by
  refine OCall.of (args := [.int .i64 n]) E_ok mix Try.func66 (by kernel_rfl) rfl Try.ntmps66 (Nat.le_of_ble_eq_true rfl) fun F w0 => ?_
  refine J.to 7 [] 6 [(2, .v (.bool false)), (3, .v (.int .i64 n))] [(2, .some false)] [] [] (by kernel_rfl) ?_
  refine J.one (Op1.call rfl rfl rfl rfl rfl rfl rfl rfl (accountOk_ok _ _) fun v U1 hx hv => ?_); subst hv
  refine J.to 3 [] 6 [(2, .v (.bool !accOk n))] [] [] [] (by kernel_rfl) ?_
  exact J.ret ⟨_, rfl, .inl rfl⟩

theorem indexInt_ok (f : FuncId) (caps : List Value) (p : Int → Bool) (v : Value) (l : List Int) (U : Hp) (hl : Rd rInt U v l) (hb : l.length < 2^62)
    (hf : ∀ x ∈ l, ∀ U', Ext U U' → PCall Try.prog f ([Value.int .i64 x] ++ caps).toArray U' fun r _ => r = .bool (p x)) :
    PCall Try.prog 72 #[v, .func (.func f) #[] caps.toArray] U fun r U' => ∃ n, r = .int .i64 n ∧ decide (n ≥ 0) = l.any p := by
  obtain ⟨A, c, rfl, hc, hA⟩ := hl
  refine OCall.of (args := [.slice A l.length c, .func (.func f) #[] caps.toArray]) E_ok mix Try.func72 (by kernel_rfl) rfl Try.ntmps72 (Nat.le_of_ble_eq_true rfl) fun F w0 => ?_
  refine J.to 12 [] 19 [(0, .v (.slice A (List.length l) c)), (1, .v (.func (.func f) (Array.mk []) (Array.mk caps))), (4, .v (.int .i64 0)), (7, .v (.int .i64 (↑(List.length l) : Int))), (8, .v (.int .i64 0))] [] [] [] (by kernel_rfl) ?_
  refine J.loopK 19 [] (fun i : Nat => [(0, .v (.slice A l.length c)), (1, .v (.func (.func f) #[] caps.toArray)), (7, .v (.int .i64 l.length)), (8, .v (.int .i64 i))]) (fun _ => [])
    (fun i U' => i ≤ l.length ∧ (l.take i).any p = false ∧ Arr rInt U' A l) (fun i => l.length - i) 0 ⟨Nat.zero_le _, rfl, hA⟩ (by kernel_rfl) fun i U' ⟨h1, h2, hA⟩ hx => ?_
  refine J.to 5 [] 19 [(0, .v (.slice A (List.length l) c)), (1, .v (.func (.func f) (Array.mk []) (Array.mk caps))), (7, .v (.int .i64 (↑(List.length l) : Int))), (8, .v (.int .i64 (↑i : Int))), (9, .v (.bool (Decidable.decide ((↑i : Int) < (↑(List.length l) : Int)))))] [] [] [] (by kernel_rfl) ?_
  refine J.br rfl rfl (fun hb => ?_) (fun hb => ?_)
  · refine J.to 14 [true] 19 [(0, .v (.slice A (List.length l) c)), (1, .v (.func (.func f) (Array.mk []) (Array.mk caps))), (7, .v (.int .i64 (↑(List.length l) : Int))), (8, .v (.int .i64 (↑i : Int))), (5, .v (.int .i64 (↑i : Int))), (11, .v (.func (.func f) (Array.mk []) (Array.mk caps))), (12, .v (.slice A (List.length l) c)), (13, .v (.int .i64 (↑i : Int)))] [] [] [] (by kernel_rfl) ?_
    replace hb : (i : Int) < l.length := of_decide_eq_true hb
    have hlt : i < l.length := by omega
    refine J.one (Op1.index (r := rInt) rfl rfl rfl rfl rfl ⟨_, _, _, _, _, rfl, rfl, rfl⟩ rfl rfl hA (by omega) hb fun q b o' cs hq hcs => ?_)
    subst hcs
    have hq' : l[i] = q := by
      have := (List.getElem?_eq_some_iff.1 hq).2
      simpa using this
    have htake : l.take (i + 1) = l.take i ++ [q] := by rw [← hq', List.take_succ_eq_append_getElem hlt]
    refine J.to 1 [] 19 [(0, .v (.slice A (List.length l) c)), (1, .v (.func (.func f) (Array.mk []) (Array.mk caps))), (5, .v (.int .i64 (↑i : Int))), (7, .v (.int .i64 (↑(List.length l) : Int))), (8, .v (.int .i64 (↑i : Int))), (11, .v (.func (.func f) (Array.mk []) (Array.mk caps))), (15, .v (.int .i64 q))] [] [] [] (by kernel_rfl) ?_
    refine J.one (Op1.vcallP rfl rfl rfl rfl rfl rfl rfl rfl rfl (hf q (hq' ▸ List.getElem_mem hlt) U' hx) fun v U2 hx2 hv => ?_)
    subst hv
    refine J.to 1 [] 19 [(0, .v (.slice A (List.length l) c)), (1, .v (.func (.func f) (Array.mk []) (Array.mk caps))), (5, .v (.int .i64 (↑i : Int))), (7, .v (.int .i64 (↑(List.length l) : Int))), (8, .v (.int .i64 (↑i : Int))), (16, .v (.bool (p q)))] [] [] [] (by kernel_rfl) ?_
    refine J.br rfl rfl (fun hb => ?_) (fun hb => ?_)
    · refine J.to 6 [true] 19 [(0, .v (.slice A (List.length l) c)), (1, .v (.func (.func f) (Array.mk []) (Array.mk caps))), (7, .v (.int .i64 (↑(List.length l) : Int))), (8, .v (.int .i64 (↑i : Int))), (4, .v (.int .i64 (↑i : Int)))] [] [] [] (by kernel_rfl) ?_
      refine J.ret ⟨_, rfl, .inl ⟨i, rfl, ?_⟩⟩
      have : l.any p = true := List.any_eq_true.2 ⟨q, hq' ▸ List.getElem_mem hlt, hb⟩
      rw [this]; simp
    · refine J.to 7 [false] 19 [(0, .v (.slice A (List.length l) c)), (1, .v (.func (.func f) (Array.mk []) (Array.mk caps))), (7, .v (.int .i64 (↑(List.length l) : Int))), (8, .v (.int .i64 (IntKind.wrap .i64 ((↑i : Int) + 1))))] [] [] [] (by kernel_rfl) ?_
      rw [show IntKind.wrap .i64 ((i : Int) + 1) = ((i + 1 : Nat) : Int) from wr_id (by omega)]
      refine J.againK (i + 1) (by kernel_rfl) ⟨by omega, ?_, hA.mono hx2⟩ (by omega)
      rw [htake, List.any_append, h2]
      simp [hb]
  · refine J.to 6 [false] 19 [(4, .v (.int .i64 (-1)))] [] [] [] (by kernel_rfl) ?_
    replace hb : ¬ (i : Int) < l.length := of_decide_eq_false hb
    obtain rfl : i = l.length := by omega
    refine J.ret ⟨_, rfl, .inl ⟨-1, rfl, ?_⟩⟩
    rw [List.take_length] at h2
    rw [h2]; simp

theorem containsInt_ok (f : FuncId) (caps : List Value) (p : Int → Bool) (v : Value) (l : List Int) (U : Hp) (hl : Rd rInt U v l) (hb : l.length < 2^62)
    (hf : ∀ x ∈ l, ∀ U', Ext U U' → PCall Try.prog f ([Value.int .i64 x] ++ caps).toArray U' fun r _ => r = .bool (p x)) :
    PCall Try.prog 65 #[v, .func (.func f) #[] caps.toArray] U fun r U' => r = .bool (l.any p) := by
  refine OCall.of (args := [v, .func (.func f) #[] caps.toArray]) E_ok mix Try.func65 (by kernel_rfl) rfl Try.ntmps65 (Nat.le_of_ble_eq_true rfl) fun F w0 => ?_
  refine J.to 8 [] 9 [(4, .v (.bool false)), (5, .v v), (6, .v (.func (.func f) (Array.mk []) (Array.mk caps)))] [(4, .some false)] [] [] (by kernel_rfl) ?_
  refine J.one (Op1.call rfl rfl rfl rfl rfl rfl rfl rfl (indexInt_ok f caps p v l U hl hb hf) fun v U1 hx ⟨n, hv, hn⟩ => ?_); subst hv
  refine J.to 3 [] 9 [(4, .v (.bool (Decidable.decide (n ≥ 0))))] [] [] [] (by kernel_rfl) ?_
  refine J.ret ⟨_, rfl, .inl ?_⟩
  show Value.bool (decide (n ≥ 0)) = _
  rw [hn]

theorem accountsOk_ok (v : Value) (l : List Int) (U : Hp) (hl : Rd rInt U v l) (hb : l.length < 2^62) : PCall Try.prog 39 #[v] U fun r U' => r = .bool (accB l) := by
  obtain ⟨A, c, rfl, hc, hA⟩ := hl
  refine OCall.of (args := [.slice A l.length c]) E_ok mix Try.func39 (by kernel_rfl) rfl Try.ntmps39 (Nat.le_of_ble_eq_true rfl) fun F w0 => ?_
  refine J.to 8 [] 11 [(0, .v (.slice A (List.length l) c)), (2, .v (.bool false)), (3, .v (.slice A (List.length l) c)), (4, .v (.int .i64 (↑(List.length l) : Int)))] [(2, .some false)] [] [] (by kernel_rfl) ?_
  refine J.one (Op1.call rfl rfl rfl rfl rfl rfl rfl rfl (in_ok _ _ _ _) fun v U1 hx1 hv => ?_); subst hv
  refine J.to 1 [] 11 [(0, .v (.slice A (List.length l) c)), (2, .v (.bool false)), (3, .v (.slice A (List.length l) c)), (6, .v (.bool (inB (↑(List.length l) : Int) 1 8)))] [(2, .some false)] [] [] (by kernel_rfl) ?_
  refine J.br rfl rfl (fun h1 => ?_) (fun h1 => ?_)
  · refine J.to 1 [] 11 [(2, .v (.bool false)), (3, .v (.slice A (List.length l) c)), (6, .v (.bool true)), (7, .v (.slice A (List.length l) c))] [(2, .some false), (6, .some true)] [] [] (by kernel_rfl) ?_
    refine J.one (Op1.call rfl rfl rfl rfl rfl rfl rfl rfl (containsInt_ok 66 [] (fun n => !accOk n) _ l U1 ⟨A, c, rfl, hc, hA.mono hx1⟩ hb fun x _ U' _ => notAccount_ok x U') fun v U2 hx2 hv => ?_); subst hv
    refine J.to 4 [] 11 [(2, .v (.bool !List.any l fun n => !accOk n))] [] [] [] (by kernel_rfl) ?_
    refine J.ret ⟨_, rfl, .inl ?_⟩
    show Value.bool (!(l.any fun n => !accOk n)) = Value.bool (l.all accOk && inB l.length 1 8)
    rw [show inB l.length 1 8 = true from h1, Bool.and_true, List.all_eq_not_any_not]
  · refine J.to 6 [] 11 [(2, .v (.bool false))] [(2, .some false)] [] [] (by kernel_rfl) ?_
    refine J.ret ⟨_, rfl, .inl ?_⟩
    show Value.bool false = Value.bool (l.all accOk && inB l.length 1 8)
    rw [show inB l.length 1 8 = false from h1, Bool.and_false]

theorem moveOk_ok (m : Mv) (k : Int) (U : Hp) : PCall Try.prog 38 #[m.val, .int .i64 k] U fun v U' => v = .bool (mvB k m) := by
  refine OCall.of (args := [m.val, .int .i64 k]) E_ok mix Try.func38 (by kernel_rfl) rfl Try.ntmps38 (Nat.le_of_ble_eq_true rfl) fun F w0 => ?_
  refine J.to 11 [] 29 [(1, .v (.int .i64 k)), (2, .bp 2 0), (4, .v (.bool false)), (5, .bp 2 0), (6, .v (.int .i64 (Mv.a m))), (8, .v (.int .i64 (IntKind.wrap .i64 (k - 1))))] [(4, .some false)] [(2, .box 59 [.int .i64 (Mv.a m), .int .i64 (Mv.b m), .int .i64 (Mv.n m)])] [] (by kernel_rfl) ?_
  refine J.one (Op1.call rfl rfl rfl rfl rfl rfl rfl rfl (in_ok _ _ _ _) fun v U1 hx hv => ?_); subst hv
  refine J.to 1 [] 29 [(1, .v (.int .i64 k)), (2, .bp 2 0), (4, .v (.bool false)), (5, .bp 2 0), (10, .v (.bool (inB (Mv.a m) 0 (IntKind.wrap .i64 (k - 1)))))] [(4, .some false)] [(2, .box 59 [.int .i64 (Mv.a m), .int .i64 (Mv.b m), .int .i64 (Mv.n m)])] [] (by kernel_rfl) ?_
  refine J.br rfl rfl (fun h1 => ?_) (fun h1 => ?_)
  · refine J.to 4 [] 29 [(2, .bp 2 0), (4, .v (.bool false)), (5, .bp 2 0), (10, .v (.bool true)), (12, .v (.int .i64 (Mv.b m))), (14, .v (.int .i64 (IntKind.wrap .i64 (k - 1))))] [(4, .some false), (10, .some true)] [(2, .box 59 [.int .i64 (Mv.a m), .int .i64 (Mv.b m), .int .i64 (Mv.n m)])] [] (by kernel_rfl) ?_
    refine J.one (Op1.call rfl rfl rfl rfl rfl rfl rfl rfl (in_ok _ _ _ _) fun v U2 hx hv => ?_); subst hv
    refine J.to 2 [] 29 [(2, .bp 2 0), (4, .v (.bool false)), (12, .v (.int .i64 (Mv.b m))), (17, .v (.bool (inB (Mv.b m) 0 (IntKind.wrap .i64 (k - 1)))))] [(4, .some false)] [(2, .box 59 [.int .i64 (Mv.a m), .int .i64 (Mv.b m), .int .i64 (Mv.n m)])] [] (by kernel_rfl) ?_
    refine J.br rfl rfl (fun h2 => ?_) (fun h2 => ?_)
    · refine J.to 7 [] 29 [(2, .bp 2 0), (4, .v (.bool false)), (19, .v (.int .i64 (Mv.a m))), (24, .v (.bool (Mv.a m != Mv.b m)))] [(4, .some false)] [(2, .box 59 [.int .i64 (Mv.a m), .int .i64 (Mv.b m), .int .i64 (Mv.n m)])] [] (by kernel_rfl) ?_
      refine J.br rfl rfl (fun h3 => ?_) (fun h3 => ?_)
      · refine J.to 2 [] 29 [(4, .v (.bool false)), (19, .v (.int .i64 (Mv.a m))), (24, .v (.bool true)), (26, .v (.int .i64 (Mv.n m)))] [(4, .some false), (24, .some true)] [] [] (by kernel_rfl) ?_
        refine J.one (Op1.call rfl rfl rfl rfl rfl rfl rfl rfl (in_ok _ _ _ _) fun v U3 hx hv => ?_); subst hv
        refine J.to 3 [] 29 [(4, .v (.bool (inB (Mv.n m) 1 1000)))] [] [] [] (by kernel_rfl) ?_
        refine J.ret ⟨_, rfl, .inl ?_⟩
        show Value.bool _ = Value.bool _
        simp only [mvB, show inB m.a 0 (wr (k - 1)) = true from h1, show inB m.b 0 (wr (k - 1)) = true from h2, show (m.a != m.b) = true from h3, Bool.true_and]
      · refine J.to 6 [] 29 [(4, .v (.bool false))] [(4, .some false)] [] [] (by kernel_rfl) ?_
        refine J.ret ⟨_, rfl, .inl ?_⟩
        show Value.bool _ = Value.bool _
        simp only [mvB, show (m.a != m.b) = false from h3, Bool.and_false, Bool.false_and]
    · refine J.to 13 [] 29 [(4, .v (.bool false))] [(4, .some false)] [] [] (by kernel_rfl) ?_
      refine J.ret ⟨_, rfl, .inl ?_⟩
      show Value.bool _ = Value.bool _
      simp only [mvB, show inB m.b 0 (wr (k - 1)) = false from h2, Bool.and_false, Bool.false_and]
  · refine J.to 20 [] 29 [(4, .v (.bool false))] [(4, .some false)] [] [] (by kernel_rfl) ?_
    refine J.ret ⟨_, rfl, .inl ?_⟩
    show Value.bool _ = Value.bool _
    simp only [mvB, show inB m.a 0 (wr (k - 1)) = false from h1, Bool.false_and]

theorem back_ok (m : Mv) (U : Hp) : PCall Try.prog 43 #[m.val] U fun v U' => v = m.back.val := by
  refine OCall.of (args := [m.val]) E_ok mix Try.func43 (by kernel_rfl) rfl Try.ntmps43 (Nat.le_of_ble_eq_true rfl) fun F w0 => ?_
  refine J.to 16 [] 10 [(2, .bp 2 0)] [] [(2, .box 59 [.int .i64 (Mv.b m), .int .i64 (Mv.a m), .int .i64 (Mv.n m)])] [] (by kernel_rfl) ?_
  refine J.ret ⟨_, rfl, .inl rfl⟩

theorem cloneInt_ok (v : Value) (l : List Int) (U : Hp) (hl : Rd rInt U v l) (hb : l.length < 2^40) :
    OCall Try.prog 62 #[v] U fun r U' L => arr r 3 1 l.length (intC l) L ∧ (l ≠ [] → r ≠ .slice none 0 0) := by
  obtain ⟨A, c, rfl, hc, hA⟩ := hl
  refine OCall.of (args := [.slice A l.length c]) E_ok mix Try.func62 (by kernel_rfl) rfl Try.ntmps62 (Nat.le_of_ble_eq_true rfl) fun F w0 => ?_
  refine J.to 10 [] 8 [(0, .v (.slice A (List.length l) c)), (2, .v (.slice .none 0 0)), (4, .v (.bool (Option.isNone A)))] [] [] [] (by kernel_rfl) ?_
  refine J.br rfl rfl (fun h1 => ?_) (fun h1 => ?_)
  · have h0 : l = [] := by
      rcases hA with h | ⟨b, o, rfl, -⟩
      · exact h
      · cases h1
    subst h0
    refine J.to 5 [true] 8 [(0, .v (.slice A 0 c)), (2, .v (.slice .none 0 0))] [] [] [] (by kernel_rfl) ?_
    refine J.ret ⟨_, rfl, .inl ⟨⟨rfl, .inl ⟨rfl, rfl, fun b => rfl⟩⟩, fun h => absurd rfl h⟩⟩
  · refine J.to 4 [false] 8 [(0, .v (.slice A (List.length l) c)), (2, .v (.slice .none 0 0))] [] [] [] (by kernel_rfl) ?_
    refine J.one (Op1.buildSlice (len := 0) (size := 1) (pv := []) (cells := []) (zz := .int .i64 0) rfl rfl rfl rfl rfl ⟨_,_,_,_,_,rfl,rfl⟩ (by decide) (by decide) rfl rfl rfl fun g0 => ?_)
    refine J.to 1 [] 8 [(2, .v (.slice .none 0 0)), (5, .v (.slice (.some (Addr.mk g0 0 .none)) 0 0)), (6, .v (.slice A (List.length l) c))] [] [(5, .own (arr (.slice (.some (Addr.mk g0 0 .none)) 0 0) 3 1 0 []))] [] (by kernel_rfl) ?_
    refine J.one (Op1.append (t := 23) (e := 3) (k := 5) (news := intC l) (m := l.length) (bytes := 8) rfl rfl rfl rfl rfl rfl rfl rfl ⟨_,_,_,rfl⟩ rfl rfl rfl (by decide) rfl rfl ?_ (by simp [intC]) (by simp [intC, Value.oneCell']) (by omega) (by omega) fun v' hv' => ?_)
    · exact J.src_rd rfl ⟨A, c, rfl, hc, hA⟩ (by intro i q cs hi hr; cases hr; exact intC_drop l i q hi) (by simp [intC, rInt, Rp.int]) (by decide)
    have hne : v' ≠ .slice none 0 0 := fun e => by have := (hv'.1 e).1; cases this
    refine J.to 2 [] 8 [(2, .v v')] [] [(7, .own (arr v' 3 1 (0 + List.length l) ([] ++ intC l)))] [] (by kernel_rfl) ?_
    refine J.ret ⟨_, rfl, .inr ⟨7, _, rfl, fun L hL => ⟨by rw [Nat.zero_add, List.nil_append] at hL; exact hL, fun _ => hne⟩⟩⟩

theorem cloneMv_ok (v : Value) (l : List Mv) (U : Hp) (hl : Rd rMv U v l) (hb : l.length < 2^40) :
    OCall Try.prog 63 #[v] U fun r U' L => arr r 59 3 l.length (mvC l) L := by
  obtain ⟨A, c, rfl, hc, hA⟩ := hl
  refine OCall.of (args := [.slice A l.length c]) E_ok mix Try.func63 (by kernel_rfl) rfl Try.ntmps63 (Nat.le_of_ble_eq_true rfl) fun F w0 => ?_
  refine J.to 10 [] 8 [(0, .v (.slice A (List.length l) c)), (2, .v (.slice .none 0 0)), (4, .v (.bool (Option.isNone A)))] [] [] [] (by kernel_rfl) ?_
  refine J.br rfl rfl (fun h1 => ?_) (fun h1 => ?_)
  · have h0 : l = [] := by
      rcases hA with h | ⟨b, o, rfl, -⟩
      · exact h
      · cases h1
    subst h0
    refine J.to 5 [true] 8 [(0, .v (.slice A 0 c)), (2, .v (.slice .none 0 0))] [] [] [] (by kernel_rfl) ?_
    refine J.ret ⟨_, rfl, .inl ⟨rfl, .inl ⟨rfl, rfl, fun b => rfl⟩⟩⟩
  · refine J.to 4 [false] 8 [(0, .v (.slice A (List.length l) c)), (2, .v (.slice .none 0 0))] [] [] [] (by kernel_rfl) ?_
    refine J.one (Op1.buildSlice (len := 0) (size := 3) (pv := []) (cells := []) (zz := .agg #[.int .i64 0, .int .i64 0, .int .i64 0]) rfl rfl rfl rfl rfl ⟨_,_,_,_,_,rfl,rfl⟩ (by decide) (by decide) rfl rfl rfl fun g0 => ?_)
    refine J.to 1 [] 8 [(2, .v (.slice .none 0 0)), (5, .v (.slice (.some (Addr.mk g0 0 .none)) 0 0)), (6, .v (.slice A (List.length l) c))] [] [(5, .own (arr (.slice (.some (Addr.mk g0 0 .none)) 0 0) 59 3 0 []))] [] (by kernel_rfl) ?_
    refine J.one (Op1.append (t := 24) (e := 59) (k := 5) (news := mvC l) (m := l.length) (bytes := 24) rfl rfl rfl rfl rfl rfl rfl rfl ⟨_,_,_,rfl⟩ rfl rfl rfl (by decide) rfl rfl ?_ (mvC_len _) ?_ (by omega) (by omega) fun v' hv' => ?_)
    · exact J.src_rd rfl ⟨A, c, rfl, hc, hA⟩ (by intro i q cs hi hr; cases hr; exact mvC_drop l i q hi) (by rw [mvC_len]; rfl) (by decide)
    · intro u hu
      simp only [mvC, List.mem_flatMap] at hu
      obtain ⟨m, -, hm⟩ := hu
      simp only [Mv.cells, List.mem_cons, List.not_mem_nil, or_false] at hm
      rcases hm with rfl | rfl | rfl <;> rfl
    refine J.to 2 [] 8 [(2, .v v')] [] [(7, .own (arr v' 59 3 (0 + List.length l) ([] ++ mvC l)))] [] (by kernel_rfl) ?_
    refine J.ret ⟨_, rfl, .inr ⟨7, _, rfl, fun L hL => by rw [Nat.zero_add, List.nil_append] at hL; exact hL⟩⟩
end Go.Rx
end

section
open Go Go.Rx Go.Proofs
set_option maxHeartbeats 1000000
namespace Go.Rx
theorem accOk_iff {n : Int} : accOk n = true ↔ 0 ≤ n ∧ n ≤ 1000000 := inB_iff
theorem all_get {l : List Int} (h : l.all accOk = true) (i : Nat) : 0 ≤ l.getD i 0 ∧ l.getD i 0 ≤ 1000000 := by
  rw [List.getD_eq_getElem?_getD]
  cases e : l[i]? with
  | none => simp
  | some x => exact accOk_iff.1 (List.all_eq_true.1 h x (List.mem_of_getElem? e))

structure May (l : List Int) (m : Mv) : Prop where
  acc : l.all accOk = true
  a : 0 ≤ m.a ∧ m.a < l.length
  b : 0 ≤ m.b ∧ m.b < l.length
  ne : m.a ≠ m.b
  n : 1 ≤ m.n ∧ m.n ≤ 1000
theorem May.back {l : List Int} {m : Mv} (h : May l m) : May l m.back := ⟨h.acc, h.b, h.a, h.ne.symm, h.n⟩
theorem doL_get {l : List Int} {m : Mv} (h : May l m) (i : Nat) : (doL l m).getD i 0 = if i = m.b.toNat then l.getD i 0 + m.n else if i = m.a.toNat then l.getD i 0 - m.n else l.getD i 0 := by
  obtain ⟨hacc, h1, h2, hne, hn⟩ := h
  have ga := all_get hacc m.a.toNat
  have gb := all_get hacc m.b.toNat
  have hab : m.a.toNat ≠ m.b.toNat := by omega
  have hl1 : m.a.toNat < l.length := by omega
  have hl2 : m.b.toNat < l.length := by omega
  have e1 : (l.set m.a.toNat (wr (l.getD m.a.toNat 0 - m.n))).getD m.b.toNat 0 = l.getD m.b.toNat 0 := by
    simp only [List.getD_eq_getElem?_getD, List.getElem?_set_ne hab]
  unfold doL
  simp only [e1]
  rw [wr_id (by omega), wr_id (by omega)]
  simp only [List.getD_eq_getElem?_getD, List.getElem?_set, List.length_set]
  by_cases e2 : i = m.b.toNat
  · subst e2; simp [hl2]
  · rw [if_neg (fun h => e2 h.symm), if_neg e2]
    by_cases e3 : i = m.a.toNat
    · subst e3; simp [hl1]
    · rw [if_neg (fun h => e3 h.symm), if_neg e3]
theorem doOk_eq {l : List Int} {m : Mv} (h : May l m) : (accOk ((doL l m).getD m.a.toNat 0) && accOk ((doL l m).getD m.b.toNat 0)) = doOk l m := by
  have hab : m.a.toNat ≠ m.b.toNat := by have := h.ne; have := h.a; have := h.b; omega
  have ga := all_get h.acc m.a.toNat
  have gb := all_get h.acc m.b.toNat
  have hn := h.n
  unfold doOk
  rw [doL_get h, doL_get h, if_neg hab, if_pos rfl, if_pos rfl]
  rw [Bool.eq_iff_iff]
  simp only [Bool.and_eq_true, accOk_iff, decide_eq_true_eq]
  omega

theorem moved_own (v : Value) (l : List Int) (m : Mv) (U : Hp) (hl : Rd rInt U v l) (hb : l.length < 2^40) (hmay : May l m) :
    OCall Try.prog 42 #[v, m.val] U fun r U' L => ∃ v', r = .tuple #[v', .bool (doOk l m)] ∧ arr v' 3 1 l.length (intC (doL l m)) L := by
  refine OCall.of (args := [v, m.val]) E_ok mix Try.func42 (by kernel_rfl) rfl Try.ntmps42 (Nat.le_of_ble_eq_true rfl) fun F w0 => ?_
  refine J.to 9 [] 42 [(3, .bp 3 0), (4, .v (.slice .none 0 0)), (5, .v (.bool false)), (7, .v v)] [(5, .some false)] [(3, .box 59 [.int .i64 (Mv.a m), .int .i64 (Mv.b m), .int .i64 (Mv.n m)])] [] (by kernel_rfl) ?_
  refine J.one (Op1.ocall rfl rfl rfl rfl rfl rfl rfl (cloneInt_ok v l U hl hb) fun v' U1 hx1 => ?_)
  refine J.own' (α := l ≠ [] → v' ≠ .slice none 0 0) (p' := fun _ => arr v' 3 1 l.length (intC l)) 8 rfl (fun h ⟨a, b⟩ => ⟨b, a⟩) fun hne0 => ?_
  have h1 := hmay.a
  have h2 := hmay.b
  · have hne : v' ≠ .slice none 0 0 := hne0 (by intro e; subst e; simp at h1; omega)
    have hlen : (intC l).length = l.length := intC_len l
    generalize hA : l.set m.a.toNat (wr (l.getD m.a.toNat 0 - m.n)) = l1
    have hlen1 : l1.length = l.length := by rw [← hA]; simp
    generalize hB : l1.set m.b.toNat (wr (l1.getD m.b.toNat 0 + m.n)) = l2
    have hlen2 : l2.length = l.length := by rw [← hB]; simp [hlen1]
    have hdo : doL l m = l2 := by rw [doL, hA, ← hB]
    refine J.arrBox 8 rfl hne fun g cap rest e0 hnc hcm hl1 hl2 => ?_
    subst e0
    refine J.to 3 [] 42 [(3, .bp 3 0), (4, .v (.slice .none 0 0)), (5, .v (.bool false)), (7, .v v), (6, .v (.slice (.some (Addr.mk g 0 .none)) (List.length l) cap))] [(5, .some false)] [(3, .box 59 [.int .i64 (Mv.a m), .int .i64 (Mv.b m), .int .i64 (Mv.n m)]), (8, .box 3 (intC l ++ rest))] [(8, .some g)] (by kernel_rfl) ?_
    refine J.any [3] [] [(8, g)] ⟨rfl, trivial⟩ fun ρ1 ⟨hρ1, _⟩ => ?_
    refine J.takeTo true [0, 1, 2, 5, 6] 5 42 [(3, .bp 3 0), (4, .v (.slice .none 0 0)), (5, .v (.bool false)), (6, .v (.slice (.some (Addr.mk g 0 .none)) (List.length l) cap)), (7, .v v), (9, .v (.slice (.some (Addr.mk g 0 .none)) (List.length l) cap)), (10, .bp 3 0), (11, .v (.int .i64 (Mv.a m))), (14, .bp 3 2), (15, .v (.int .i64 (Mv.n m)))] [(5, .some false)] [(3, .box 59 [.int .i64 (Mv.a m), .int .i64 (Mv.b m), .int .i64 (Mv.n m)]), (8, .box 3 (intC l ++ rest))] [(3, .some (ρ1 3)), (8, .some (ρ1 8))] (by first | exact Ext.refl _ | assumption | exact Ext.trans (by assumption) (by assumption)) (fun h => rfl) ⟨⟨rfl, rfl⟩, trivial⟩ rfl (by kernel_rfl) ?_
    refine J.aone (i := 3) (by kernel_rfl) (Op1.indexB (key := 8) rfl rfl rfl rfl rfl ⟨_,_,_,_,_,rfl,rfl,rfl⟩ rfl (congrArg some hρ1) rfl h1.1 (by omega) ⟨fun _ => ⟨Ext.refl _, ⟨rfl, rfl⟩, trivial⟩, ?_⟩)
    refine J.aone (i := 4) (by kernel_rfl) (Op1.loadB (v := .int .i64 (l.getD m.a.toNat 0)) rfl rfl rfl rfl rfl rfl rfl ?_ ⟨fun _ => ⟨Ext.refl _, ⟨rfl, rfl⟩, trivial⟩, ?_⟩)
    · show (intC l ++ rest)[m.a.toNat * 1]? = _
      rw [Nat.mul_one]; exact intC_get (by omega) rest
    refine J.takeTo true [7] 2 42 [(3, .bp 3 0), (4, .v (.slice .none 0 0)), (5, .v (.bool false)), (6, .v (.slice (.some (Addr.mk g 0 .none)) (List.length l) cap)), (7, .v v), (9, .v (.slice (.some (Addr.mk g 0 .none)) (List.length l) cap)), (10, .bp 3 0), (11, .v (.int .i64 (Mv.a m))), (12, .bp 8 (Int.toNat (Mv.a m) * 1)), (13, .v (.int .i64 (List.getD l (Int.toNat (Mv.a m)) 0))), (14, .bp 3 2), (15, .v (.int .i64 (Mv.n m))), (16, .v (.int .i64 (IntKind.wrap .i64 (List.getD l (Int.toNat (Mv.a m)) 0 - Mv.n m))))] [(5, .some false)] [(3, .box 59 [.int .i64 (Mv.a m), .int .i64 (Mv.b m), .int .i64 (Mv.n m)]), (8, .box 3 (intC l ++ rest))] [(3, .some (ρ1 3)), (8, .some (ρ1 8))] (by first | exact Ext.refl _ | assumption | exact Ext.trans (by assumption) (by assumption)) (fun h => rfl) ⟨⟨rfl, rfl⟩, trivial⟩ rfl (by kernel_rfl) ?_
    refine J.aone (i := 8) (by kernel_rfl) (Op1.indexB (key := 8) rfl rfl rfl rfl rfl ⟨_,_,_,_,_,rfl,rfl,rfl⟩ rfl (congrArg some hρ1) rfl h1.1 (by omega) ⟨fun _ => ⟨Ext.refl _, ⟨rfl, rfl⟩, trivial⟩, ?_⟩)
    refine J.aone (i := 9) (by kernel_rfl) (Op1.storeB (cells' := intC l1 ++ rest) rfl rfl rfl rfl rfl rfl rfl ⟨_, rfl, rfl⟩ ?_ rfl ?_ ⟨fun _ => ⟨Ext.refl _, ⟨rfl, rfl⟩, trivial⟩, ?_⟩)
    · show m.a.toNat * 1 + 1 ≤ (intC l ++ rest).length
      simp [hlen]; omega
    · show putCells (intC l ++ rest) (m.a.toNat * 1) [_] = _
      rw [putCells_app _ _ _ _ (by simp [hlen]; omega), ← hA]
      simp [putCells, intC, List.map_set, wr]
    refine J.adone' (by kernel_rfl) ?_
    refine J.to 1 [] 42 [(3, .bp 3 0), (4, .v (.slice .none 0 0)), (5, .v (.bool false)), (6, .v (.slice (.some (Addr.mk g 0 .none)) (List.length l) cap)), (7, .v v)] [(5, .some false)] [(3, .box 59 [.int .i64 (Mv.a m), .int .i64 (Mv.b m), .int .i64 (Mv.n m)]), (8, .box 3 (intC l1 ++ rest))] [(3, .some (ρ1 3)), (8, .some (ρ1 8))] (by kernel_rfl) ?_
    refine J.any [3] [] [(8, g)] ⟨congrArg some hρ1, trivial⟩ fun ρ2 ⟨hρ2, _⟩ => ?_
    refine J.takeTo true [0, 1, 2, 5, 6] 5 42 [(3, .bp 3 0), (4, .v (.slice .none 0 0)), (5, .v (.bool false)), (6, .v (.slice (.some (Addr.mk g 0 .none)) (List.length l) cap)), (7, .v v), (18, .v (.slice (.some (Addr.mk g 0 .none)) (List.length l) cap)), (19, .bp 3 1), (20, .v (.int .i64 (Mv.b m))), (23, .bp 3 2), (24, .v (.int .i64 (Mv.n m)))] [(5, .some false)] [(3, .box 59 [.int .i64 (Mv.a m), .int .i64 (Mv.b m), .int .i64 (Mv.n m)]), (8, .box 3 (intC l1 ++ rest))] [(3, .some (ρ2 3)), (8, .some (ρ2 8))] (by first | exact Ext.refl _ | assumption | exact Ext.trans (by assumption) (by assumption)) (fun h => rfl) ⟨⟨rfl, rfl⟩, trivial⟩ rfl (by kernel_rfl) ?_
    refine J.aone (i := 3) (by kernel_rfl) (Op1.indexB (key := 8) rfl rfl rfl rfl rfl ⟨_,_,_,_,_,rfl,rfl,rfl⟩ rfl (congrArg some hρ2) rfl h2.1 (by omega) ⟨fun _ => ⟨Ext.refl _, ⟨rfl, rfl⟩, trivial⟩, ?_⟩)
    refine J.aone (i := 4) (by kernel_rfl) (Op1.loadB (v := .int .i64 (l1.getD m.b.toNat 0)) rfl rfl rfl rfl rfl rfl rfl ?_ ⟨fun _ => ⟨Ext.refl _, ⟨rfl, rfl⟩, trivial⟩, ?_⟩)
    · show (intC l1 ++ rest)[m.b.toNat * 1]? = _
      rw [Nat.mul_one]; exact intC_get (by omega) rest
    refine J.takeTo true [7] 2 42 [(3, .bp 3 0), (4, .v (.slice .none 0 0)), (5, .v (.bool false)), (6, .v (.slice (.some (Addr.mk g 0 .none)) (List.length l) cap)), (7, .v v), (18, .v (.slice (.some (Addr.mk g 0 .none)) (List.length l) cap)), (19, .bp 3 1), (20, .v (.int .i64 (Mv.b m))), (21, .bp 8 (Int.toNat (Mv.b m) * 1)), (22, .v (.int .i64 (List.getD l1 (Int.toNat (Mv.b m)) 0))), (23, .bp 3 2), (24, .v (.int .i64 (Mv.n m))), (25, .v (.int .i64 (IntKind.wrap .i64 (List.getD l1 (Int.toNat (Mv.b m)) 0 + Mv.n m))))] [(5, .some false)] [(3, .box 59 [.int .i64 (Mv.a m), .int .i64 (Mv.b m), .int .i64 (Mv.n m)]), (8, .box 3 (intC l1 ++ rest))] [(3, .some (ρ2 3)), (8, .some (ρ2 8))] (by first | exact Ext.refl _ | assumption | exact Ext.trans (by assumption) (by assumption)) (fun h => rfl) ⟨⟨rfl, rfl⟩, trivial⟩ rfl (by kernel_rfl) ?_
    refine J.aone (i := 8) (by kernel_rfl) (Op1.indexB (key := 8) rfl rfl rfl rfl rfl ⟨_,_,_,_,_,rfl,rfl,rfl⟩ rfl (congrArg some hρ2) rfl h2.1 (by omega) ⟨fun _ => ⟨Ext.refl _, ⟨rfl, rfl⟩, trivial⟩, ?_⟩)
    refine J.aone (i := 9) (by kernel_rfl) (Op1.storeB (cells' := intC l2 ++ rest) rfl rfl rfl rfl rfl rfl rfl ⟨_, rfl, rfl⟩ ?_ rfl ?_ ⟨fun _ => ⟨Ext.refl _, ⟨rfl, rfl⟩, trivial⟩, ?_⟩)
    · show m.b.toNat * 1 + 1 ≤ (intC l1 ++ rest).length
      simp [intC_len, hlen1]; omega
    · show putCells (intC l1 ++ rest) (m.b.toNat * 1) [_] = _
      rw [putCells_app _ _ _ _ (by simp [intC_len, hlen1]; omega), ← hB]
      simp [putCells, intC, List.map_set, wr]
    refine J.adone' (by kernel_rfl) ?_
    refine J.to 6 [] 42 [(3, .bp 3 0), (4, .v (.slice .none 0 0)), (5, .v (.bool false)), (6, .v (.slice (.some (Addr.mk g 0 .none)) (List.length l) cap)), (7, .v v), (27, .v (.slice (.some (Addr.mk g 0 .none)) (List.length l) cap)), (28, .v (.slice (.some (Addr.mk g 0 .none)) (List.length l) cap)), (30, .v (.int .i64 (Mv.a m)))] [(5, .some false)] [(3, .box 59 [.int .i64 (Mv.a m), .int .i64 (Mv.b m), .int .i64 (Mv.n m)]), (8, .box 3 (intC l2 ++ rest))] [(3, .some (ρ2 3)), (8, .some (ρ2 8))] (by kernel_rfl) ?_
    refine J.one (Op1.indexB (key := 8) rfl rfl rfl rfl rfl ⟨_,_,_,_,_,rfl,rfl,rfl⟩ rfl (congrArg some hρ2) rfl h1.1 (by omega) ?_)
    refine J.one (Op1.loadB (v := .int .i64 (l2.getD m.a.toNat 0)) rfl rfl rfl rfl rfl rfl rfl ?_ ?_)
    · show (intC l2 ++ rest)[m.a.toNat * 1]? = _
      rw [Nat.mul_one]; exact intC_get (by omega) rest
    refine J.to 0 [] 42 [(3, .bp 3 0), (4, .v (.slice .none 0 0)), (5, .v (.bool false)), (6, .v (.slice (.some (Addr.mk g 0 .none)) (List.length l) cap)), (7, .v v), (27, .v (.slice (.some (Addr.mk g 0 .none)) (List.length l) cap)), (32, .v (.int .i64 (List.getD l2 (Int.toNat (Mv.a m)) 0)))] [(5, .some false)] [(3, .box 59 [.int .i64 (Mv.a m), .int .i64 (Mv.b m), .int .i64 (Mv.n m)]), (8, .box 3 (intC l2 ++ rest))] [(3, .some (ρ2 3)), (8, .some (ρ2 8))] (by kernel_rfl) ?_
    refine J.one (Op1.call rfl rfl rfl rfl rfl rfl rfl rfl (accountOk_ok _ _) fun v U2 hx2 hv => ?_); subst hv
    refine J.to 1 [] 42 [(3, .bp 3 0), (4, .v (.slice .none 0 0)), (5, .v (.bool false)), (6, .v (.slice (.some (Addr.mk g 0 .none)) (List.length l) cap)), (7, .v v), (27, .v (.slice (.some (Addr.mk g 0 .none)) (List.length l) cap)), (34, .v (.bool (accOk (List.getD l2 (Int.toNat (Mv.a m)) 0))))] [(5, .some false)] [(3, .box 59 [.int .i64 (Mv.a m), .int .i64 (Mv.b m), .int .i64 (Mv.n m)]), (8, .box 3 (intC l2 ++ rest))] [(3, .some (ρ2 3)), (8, .some (ρ2 8))] (by kernel_rfl) ?_
    refine J.br rfl rfl (fun hb => ?_) (fun hb => ?_)
    · refine J.to 3 [] 42 [(4, .v (.slice .none 0 0)), (5, .v (.bool false)), (7, .v v), (27, .v (.slice (.some (Addr.mk g 0 .none)) (List.length l) cap)), (34, .v (.bool true)), (35, .v (.slice (.some (Addr.mk g 0 .none)) (List.length l) cap)), (37, .v (.int .i64 (Mv.b m)))] [(5, .some false), (34, .some true)] [(3, .box 59 [.int .i64 (Mv.a m), .int .i64 (Mv.b m), .int .i64 (Mv.n m)]), (8, .box 3 (intC l2 ++ rest))] [(3, .some (ρ2 3)), (8, .some (ρ2 8))] (by kernel_rfl) ?_
      refine J.one (Op1.indexB (key := 8) rfl rfl rfl rfl rfl ⟨_,_,_,_,_,rfl,rfl,rfl⟩ rfl (congrArg some hρ2) rfl h2.1 (by omega) ?_)
      refine J.one (Op1.loadB (v := .int .i64 (l2.getD m.b.toNat 0)) rfl rfl rfl rfl rfl rfl rfl ?_ ?_)
      · show (intC l2 ++ rest)[m.b.toNat * 1]? = _
        rw [Nat.mul_one]; exact intC_get (by omega) rest
      refine J.to 0 [] 42 [(4, .v (.slice .none 0 0)), (5, .v (.bool false)), (7, .v v), (27, .v (.slice (.some (Addr.mk g 0 .none)) (List.length l) cap)), (34, .v (.bool true)), (39, .v (.int .i64 (List.getD l2 (Int.toNat (Mv.b m)) 0)))] [(5, .some false), (34, .some true)] [(3, .box 59 [.int .i64 (Mv.a m), .int .i64 (Mv.b m), .int .i64 (Mv.n m)]), (8, .box 3 (intC l2 ++ rest))] [(3, .some (ρ2 3)), (8, .some (ρ2 8))] (by kernel_rfl) ?_
      refine J.one (Op1.call rfl rfl rfl rfl rfl rfl rfl rfl (accountOk_ok _ _) fun v U3 hx3 hv => ?_); subst hv
      refine J.boxArr (xs := intC l2) (n := l.length) (size := 1) (cap := cap) 8 rfl (congrArg some hρ2) (by omega) hcm (by simp [intC_len, hlen2]) (by simp [intC_len, hlen2] at hl2 ⊢; omega) ?_
      refine J.to 4 [] 42 [(4, .v (.slice (.some (Addr.mk g 0 .none)) (List.length l) cap)), (5, .v (.bool (accOk (List.getD l2 (Int.toNat (Mv.b m)) 0))))] [] [(3, .box 59 [.int .i64 (Mv.a m), .int .i64 (Mv.b m), .int .i64 (Mv.n m)]), (8, .own (arr (.slice (.some (Addr.mk g 0 .none)) (List.length l) cap) 3 1 (List.length l) (intC l2)))] [(3, .some (ρ2 3)), (8, .some (ρ2 8))] (by kernel_rfl) ?_
      refine J.ret ⟨_, rfl, .inr ⟨8, _, rfl, fun L hL => ⟨.slice (some ⟨g, 0, none⟩) l.length cap, ?_, ?_⟩⟩⟩
      · rw [← doOk_eq hmay, hdo]
        show Value.tuple #[_, .bool _] = Value.tuple #[_, .bool (accOk (l2.getD m.a.toNat 0) && accOk (l2.getD m.b.toNat 0))]
        rw [show accOk (l2.getD m.a.toNat 0) = true from hb, Bool.true_and]
      · rw [hdo]; exact hL
    · refine J.boxArr (xs := intC l2) (n := l.length) (size := 1) (cap := cap) 8 rfl (congrArg some hρ2) (by omega) hcm (by simp [intC_len, hlen2]) (by simp [intC_len, hlen2] at hl2 ⊢; omega) ?_
      refine J.to 10 [] 42 [(4, .v (.slice (.some (Addr.mk g 0 .none)) (List.length l) cap)), (5, .v (.bool false))] [(5, .some false)] [(3, .box 59 [.int .i64 (Mv.a m), .int .i64 (Mv.b m), .int .i64 (Mv.n m)]), (8, .own (arr (.slice (.some (Addr.mk g 0 .none)) (List.length l) cap) 3 1 (List.length l) (intC l2)))] [(3, .some (ρ2 3)), (8, .some (ρ2 8))] (by kernel_rfl) ?_
      refine J.ret ⟨_, rfl, .inr ⟨8, _, rfl, fun L hL => ⟨.slice (some ⟨g, 0, none⟩) l.length cap, ?_, ?_⟩⟩⟩
      · rw [← doOk_eq hmay, hdo]
        show Value.tuple #[_, .bool _] = Value.tuple #[_, .bool (accOk (l2.getD m.a.toNat 0) && accOk (l2.getD m.b.toNat 0))]
        rw [show accOk (l2.getD m.a.toNat 0) = false from hb, Bool.false_and]
      · rw [hdo]; exact hL
end Go.Rx
end

section
open Go Go.Rx Go.Proofs
set_option maxHeartbeats 1000000
namespace Go.Rx

def sgOwn (va vm : Value) (s : Sg) : Hp → Prop := star (arr va 3 1 s.acc.length (intC s.acc)) (arr vm 59 3 s.mv.length (mvC s.mv))
theorem sgOwn_rd {va vm : Value} {s : Sg} {L U : Hp} (h : sgOwn va vm s L) (hx : Ext L U) : Rd rInt U va s.acc ∧ Rd rMv U vm s.mv := by
  obtain ⟨a, b, ha, hb, hd, rfl⟩ := h
  exact ⟨int_rd ha (Hp.un_l.trans hx), mv_rd hb ((Hp.un_r hd).trans hx)⟩

theorem cloneSaga_ok (va vm : Value) (s : Sg) (U : Hp) (ha : Rd rInt U va s.acc) (hm : Rd rMv U vm s.mv) (hb : s.acc.length < 2^40) (hb2 : s.mv.length < 2^40) :
    OCall Try.prog 28 #[.agg #[va, vm, .int .i64 s.done, .bool s.und]] U fun r U' L => ∃ va' vm', r = .agg #[va', vm', .int .i64 s.done, .bool s.und] ∧ sgOwn va' vm' s L := by
  refine OCall.of (args := [.agg #[va, vm, .int .i64 s.done, .bool s.und]]) E_ok mix Try.func28 (by kernel_rfl) rfl Try.ntmps28 (Nat.le_of_ble_eq_true rfl) fun F w0 => ?_
  refine J.to 6 [] 12 [(1, .bp 1 0), (2, .bp 2 0)] [] [(1, .box 28 [va, vm, .int .i64 (Sg.done s), .bool (Sg.und s)]), (2, .box 28 [.slice .none 0 0, .slice .none 0 0, .int .i64 0, .bool false])] [] (by kernel_rfl) ?_
  refine J.any [1] [7, 8, 9] [] trivial fun ρ1 _ => ?_
  refine J.takeTo true [0, 1, 3, 4] 6 12 [(1, .bp 1 0), (2, .bp 2 0), (3, .bp 1 0), (4, .v va), (6, .bp 1 1), (7, .v vm)] [] [(1, .box 28 [va, vm, .int .i64 (Sg.done s), .bool (Sg.und s)]), (2, .box 28 [.slice .none 0 0, .slice .none 0 0, .int .i64 0, .bool false])] [(1, .some (ρ1 1)), (2, .some (ρ1 2))] (by first | exact Ext.refl _ | assumption | exact Ext.trans (by assumption) (by assumption)) (fun h => rfl) ⟨⟨rfl, rfl⟩, trivial⟩ rfl (by kernel_rfl) ?_
  refine J.aone (i := 2) (by kernel_rfl) (Op1.ocall rfl rfl rfl rfl rfl rfl rfl (cloneInt_ok va s.acc U ha hb) fun v1 U1 hx1 => ⟨fun _ => ⟨hx1, ⟨rfl, rfl⟩, trivial⟩, ?_⟩)
  refine J.own' (α := s.acc ≠ [] → v1 ≠ .slice none 0 0) (p' := fun _ => arr v1 3 1 s.acc.length (intC s.acc)) 5 rfl (fun h ⟨a, b⟩ => ⟨b, a⟩) fun hne0 => ?_
  refine J.arrS 5 rfl fun A1 c1 e1 => ?_
  subst e1
  refine J.takeTo false [6] 4 12 [(1, .bp 1 0), (2, .bp 2 0), (3, .bp 1 0), (4, .v va), (5, .v (.slice A1 (List.length (Sg.acc s)) c1)), (6, .bp 1 1), (7, .v vm), (9, .bp 1 0)] [] [(1, .box 28 [va, vm, .int .i64 (Sg.done s), .bool (Sg.und s)]), (2, .box 28 [.slice .none 0 0, .slice .none 0 0, .int .i64 0, .bool false]), (5, .own (arr (.slice A1 (List.length (Sg.acc s)) c1) 3 1 (List.length (Sg.acc s)) (intC (Sg.acc s))))] [(1, .some (ρ1 1)), (2, .some (ρ1 2))] (by first | exact Ext.refl _ | assumption | exact Ext.trans (by assumption) (by assumption)) (fun h => by cases h) ⟨⟨rfl, rfl⟩, trivial⟩ rfl (by kernel_rfl) ?_
  refine J.aone (i := 5) (by kernel_rfl) (Op1.ocall rfl rfl rfl rfl rfl rfl rfl (cloneMv_ok vm s.mv U1 (hm.mono hx1) hb2) fun v2 U2 hx2 => ⟨fun _ => ⟨hx1.trans hx2, ⟨rfl, rfl⟩, trivial⟩, ?_⟩)
  refine J.arrS 8 rfl fun A2 c2 e2 => ?_
  subst e2
  refine J.aone (i := 7) (by kernel_rfl) (Op1.step rfl rfl rfl ⟨nofun, ?_⟩)
  refine J.aone (i := 8) (by kernel_rfl) (Op1.step rfl rfl rfl ⟨nofun, ?_⟩)
  refine J.aone (i := 9) (by kernel_rfl) (Op1.step rfl rfl rfl ⟨nofun, ?_⟩)
  refine J.adone' (by kernel_rfl) ?_
  refine J.join 5 8 rfl rfl rfl ?_
  refine J.to 5 [] 12 [(2, .bp 2 0)] [] [(1, .box 28 [.slice A1 (List.length (Sg.acc s)) c1, .slice A2 (List.length (Sg.mv s)) c2, .int .i64 (Sg.done s), .bool (Sg.und s)]), (5, .own (star (arr (.slice A1 (List.length (Sg.acc s)) c1) 3 1 (List.length (Sg.acc s)) (intC (Sg.acc s))) fun L => arr (.slice A2 (List.length (Sg.mv s)) c2) 59 3 (List.length (Sg.mv s)) (mvC (Sg.mv s)) L)), (2, .box 28 [.slice A1 (List.length (Sg.acc s)) c1, .slice A2 (List.length (Sg.mv s)) c2, .int .i64 (Sg.done s), .bool (Sg.und s)])] [(1, .some (ρ1 1)), (2, .some (ρ1 2))] (by kernel_rfl) ?_
  refine J.ret ⟨_, rfl, .inr ⟨5, _, rfl, fun L hL => ⟨_, _, rfl, hL⟩⟩⟩
end Go.Rx
end
