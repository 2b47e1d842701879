/- What the types of the loaded program are. Printed by mktypes.py. -/
import Derived.Test.YtgiiifadbnpfkaaGreatDoorProg
import Derived.Test.YtgiiifadbnpfkaaGreatDoorHxTurn
namespace Go.Proofs.YtgiiifadbnpfkaaGreatDoor.T
set_option linter.unusedSimpArgs false
set_option linter.unusedVariables false
open Go Go.Hw
set_option maxRecDepth 100000
theorem u0 : Tryz.prog.underlying 0 = some (.tuple ([]).toArray) := by kernel_rfl
theorem z0 : Tryz.prog.sz 0 = some 1 := by kernel_rfl
theorem u1 : Tryz.prog.underlying 1 = some (.func ([]).toArray ([]).toArray false) := by kernel_rfl
theorem z1 : Tryz.prog.sz 1 = some 1 := by kernel_rfl
theorem zr1 : Tryz.prog.zr 1 = some ((([.nilFunc] : List Value)).toArray) := by kernel_rfl
theorem u2 : Tryz.prog.underlying 2 = some (.int .i64) := by kernel_rfl
theorem z2 : Tryz.prog.sz 2 = some 1 := by kernel_rfl
theorem zr2 : Tryz.prog.zr 2 = some ((([.int .i64 0] : List Value)).toArray) := by kernel_rfl
theorem u3 : Tryz.prog.underlying 3 = some (.int .i64) := by kernel_rfl
theorem z3 : Tryz.prog.sz 3 = some 1 := by kernel_rfl
theorem zr3 : Tryz.prog.zr 3 = some ((([.int .i64 0] : List Value)).toArray) := by kernel_rfl
theorem u4 : Tryz.prog.underlying 4 = some .bool := by kernel_rfl
theorem z4 : Tryz.prog.sz 4 = some 1 := by kernel_rfl
theorem zr4 : Tryz.prog.zr 4 = some ((([.bool false] : List Value)).toArray) := by kernel_rfl
theorem u5 : Tryz.prog.underlying 5 = some (.int .u8) := by kernel_rfl
theorem z5 : Tryz.prog.sz 5 = some 1 := by kernel_rfl
theorem zr5 : Tryz.prog.zr 5 = some ((([.int .u8 0] : List Value)).toArray) := by kernel_rfl
theorem u6 : Tryz.prog.underlying 6 = some (.int .u8) := by kernel_rfl
theorem z6 : Tryz.prog.sz 6 = some 1 := by kernel_rfl
theorem zr6 : Tryz.prog.zr 6 = some ((([.int .u8 0] : List Value)).toArray) := by kernel_rfl
theorem u7 : Tryz.prog.underlying 7 = some (.struct ([{ name := "x", type := 2, offset := 0, embedded := false, tag := "", pkgPath := "runtime", byteOffset := 0 }, { name := "y", type := 3, offset := 1, embedded := false, tag := "", pkgPath := "runtime", byteOffset := 8 }, { name := "signed", type := 4, offset := 2, embedded := false, tag := "", pkgPath := "runtime", byteOffset := 16 }, { name := "code", type := 6, offset := 3, embedded := false, tag := "", pkgPath := "runtime", byteOffset := 17 }]).toArray) := by kernel_rfl
theorem z7 : Tryz.prog.sz 7 = some 4 := by kernel_rfl
theorem zr7 : Tryz.prog.zr 7 = some ((([.int .i64 0, .int .i64 0, .bool false, .int .u8 0] : List Value)).toArray) := by kernel_rfl
theorem u8 : Tryz.prog.underlying 8 = some (.struct ([{ name := "x", type := 2, offset := 0, embedded := false, tag := "", pkgPath := "runtime", byteOffset := 0 }, { name := "y", type := 3, offset := 1, embedded := false, tag := "", pkgPath := "runtime", byteOffset := 8 }, { name := "signed", type := 4, offset := 2, embedded := false, tag := "", pkgPath := "runtime", byteOffset := 16 }, { name := "code", type := 6, offset := 3, embedded := false, tag := "", pkgPath := "runtime", byteOffset := 17 }]).toArray) := by kernel_rfl
theorem z8 : Tryz.prog.sz 8 = some 4 := by kernel_rfl
theorem zr8 : Tryz.prog.zr 8 = some ((([.int .i64 0, .int .i64 0, .bool false, .int .u8 0] : List Value)).toArray) := by kernel_rfl
theorem u9 : Tryz.prog.underlying 9 = some .string := by kernel_rfl
theorem z9 : Tryz.prog.sz 9 = some 1 := by kernel_rfl
theorem zr9 : Tryz.prog.zr 9 = some ((([.string ⟨#[]⟩] : List Value)).toArray) := by kernel_rfl
theorem u10 : Tryz.prog.underlying 10 = some .string := by kernel_rfl
theorem z10 : Tryz.prog.sz 10 = some 1 := by kernel_rfl
theorem zr10 : Tryz.prog.zr 10 = some ((([.string ⟨#[]⟩] : List Value)).toArray) := by kernel_rfl
theorem u11 : Tryz.prog.underlying 11 = some .string := by kernel_rfl
theorem z11 : Tryz.prog.sz 11 = some 1 := by kernel_rfl
theorem zr11 : Tryz.prog.zr 11 = some ((([.string ⟨#[]⟩] : List Value)).toArray) := by kernel_rfl
theorem u12 : Tryz.prog.underlying 12 = some (.int .u64) := by kernel_rfl
theorem z12 : Tryz.prog.sz 12 = some 1 := by kernel_rfl
theorem zr12 : Tryz.prog.zr 12 = some ((([.int .u64 0] : List Value)).toArray) := by kernel_rfl
theorem u13 : Tryz.prog.underlying 13 = some (.struct ([{ name := "msg", type := 9, offset := 0, embedded := false, tag := "", pkgPath := "runtime", byteOffset := 0 }, { name := "addr", type := 12, offset := 1, embedded := false, tag := "", pkgPath := "runtime", byteOffset := 16 }]).toArray) := by kernel_rfl
theorem z13 : Tryz.prog.sz 13 = some 2 := by kernel_rfl
theorem zr13 : Tryz.prog.zr 13 = some ((([.string ⟨#[]⟩, .int .u64 0] : List Value)).toArray) := by kernel_rfl
theorem u14 : Tryz.prog.underlying 14 = some (.struct ([{ name := "msg", type := 9, offset := 0, embedded := false, tag := "", pkgPath := "runtime", byteOffset := 0 }, { name := "addr", type := 12, offset := 1, embedded := false, tag := "", pkgPath := "runtime", byteOffset := 16 }]).toArray) := by kernel_rfl
theorem z14 : Tryz.prog.sz 14 = some 2 := by kernel_rfl
theorem zr14 : Tryz.prog.zr 14 = some ((([.string ⟨#[]⟩, .int .u64 0] : List Value)).toArray) := by kernel_rfl
theorem u15 : Tryz.prog.underlying 15 = some (.pointer 264) := by kernel_rfl
theorem z15 : Tryz.prog.sz 15 = some 1 := by kernel_rfl
theorem zr15 : Tryz.prog.zr 15 = some ((([.pointer none] : List Value)).toArray) := by kernel_rfl
theorem u16 : Tryz.prog.underlying 16 = some (.pointer 267) := by kernel_rfl
theorem z16 : Tryz.prog.sz 16 = some 1 := by kernel_rfl
theorem zr16 : Tryz.prog.zr 16 = some ((([.pointer none] : List Value)).toArray) := by kernel_rfl
theorem u17 : Tryz.prog.underlying 17 = some (.pointer 275) := by kernel_rfl
theorem z17 : Tryz.prog.sz 17 = some 1 := by kernel_rfl
theorem zr17 : Tryz.prog.zr 17 = some ((([.pointer none] : List Value)).toArray) := by kernel_rfl
theorem u18 : Tryz.prog.underlying 18 = some (.struct ([{ name := "typ", type := 17, offset := 0, embedded := false, tag := "", pkgPath := "internal/runtime/maps", byteOffset := 0 }]).toArray) := by kernel_rfl
theorem z18 : Tryz.prog.sz 18 = some 1 := by kernel_rfl
theorem zr18 : Tryz.prog.zr 18 = some ((([.pointer none] : List Value)).toArray) := by kernel_rfl
theorem u19 : Tryz.prog.underlying 19 = some (.struct ([{ name := "typ", type := 17, offset := 0, embedded := false, tag := "", pkgPath := "internal/runtime/maps", byteOffset := 0 }]).toArray) := by kernel_rfl
theorem z19 : Tryz.prog.sz 19 = some 1 := by kernel_rfl
theorem zr19 : Tryz.prog.zr 19 = some ((([.pointer none] : List Value)).toArray) := by kernel_rfl
theorem u20 : Tryz.prog.underlying 20 = some (.interface ([]).toArray) := by kernel_rfl
theorem z20 : Tryz.prog.sz 20 = some 1 := by kernel_rfl
theorem zr20 : Tryz.prog.zr 20 = some ((([.nilIface] : List Value)).toArray) := by kernel_rfl
theorem u21 : Tryz.prog.underlying 21 = some (.int .i32) := by kernel_rfl
theorem z21 : Tryz.prog.sz 21 = some 1 := by kernel_rfl
theorem zr21 : Tryz.prog.zr 21 = some ((([.int .i32 0] : List Value)).toArray) := by kernel_rfl
theorem u22 : Tryz.prog.underlying 22 = some (.slice 65) := by kernel_rfl
theorem z22 : Tryz.prog.sz 22 = some 1 := by kernel_rfl
theorem zr22 : Tryz.prog.zr 22 = some ((([.slice none 0 0] : List Value)).toArray) := by kernel_rfl
theorem u23 : Tryz.prog.underlying 23 = some (.pointer 84) := by kernel_rfl
theorem z23 : Tryz.prog.sz 23 = some 1 := by kernel_rfl
theorem zr23 : Tryz.prog.zr 23 = some ((([.pointer none] : List Value)).toArray) := by kernel_rfl
theorem u24 : Tryz.prog.underlying 24 = some (.slice 36) := by kernel_rfl
theorem z24 : Tryz.prog.sz 24 = some 1 := by kernel_rfl
theorem zr24 : Tryz.prog.zr 24 = some ((([.slice none 0 0] : List Value)).toArray) := by kernel_rfl
theorem u25 : Tryz.prog.underlying 25 = some (.tuple ([23, 24, 4]).toArray) := by kernel_rfl
theorem z25 : Tryz.prog.sz 25 = some 1 := by kernel_rfl
theorem u26 : Tryz.prog.underlying 26 = some (.func ([22]).toArray ([23, 24, 4]).toArray false) := by kernel_rfl
theorem z26 : Tryz.prog.sz 26 = some 1 := by kernel_rfl
theorem zr26 : Tryz.prog.zr 26 = some ((([.nilFunc] : List Value)).toArray) := by kernel_rfl
theorem u27 : Tryz.prog.underlying 27 = some (.slice 34) := by kernel_rfl
theorem z27 : Tryz.prog.sz 27 = some 1 := by kernel_rfl
theorem zr27 : Tryz.prog.zr 27 = some ((([.slice none 0 0] : List Value)).toArray) := by kernel_rfl
theorem u28 : Tryz.prog.underlying 28 = some (.func ([3]).toArray ([27]).toArray false) := by kernel_rfl
theorem z28 : Tryz.prog.sz 28 = some 1 := by kernel_rfl
theorem zr28 : Tryz.prog.zr 28 = some ((([.nilFunc] : List Value)).toArray) := by kernel_rfl
theorem u29 : Tryz.prog.underlying 29 = some (.func ([34]).toArray ([3]).toArray false) := by kernel_rfl
theorem z29 : Tryz.prog.sz 29 = some 1 := by kernel_rfl
theorem zr29 : Tryz.prog.zr 29 = some ((([.nilFunc] : List Value)).toArray) := by kernel_rfl
theorem u30 : Tryz.prog.underlying 30 = some (.struct ([{ name := "Kind", type := 3, offset := 0, embedded := false, tag := "", pkgPath := "", byteOffset := 0 }, { name := "N", type := 3, offset := 1, embedded := false, tag := "", pkgPath := "", byteOffset := 8 }, { name := "S", type := 9, offset := 2, embedded := false, tag := "", pkgPath := "", byteOffset := 16 }]).toArray) := by kernel_rfl
theorem z30 : Tryz.prog.sz 30 = some 3 := by kernel_rfl
theorem zr30 : Tryz.prog.zr 30 = some ((([.int .i64 0, .int .i64 0, .string ⟨#[]⟩] : List Value)).toArray) := by kernel_rfl
theorem u31 : Tryz.prog.underlying 31 = some (.struct ([{ name := "Kind", type := 3, offset := 0, embedded := false, tag := "", pkgPath := "", byteOffset := 0 }, { name := "N", type := 3, offset := 1, embedded := false, tag := "", pkgPath := "", byteOffset := 8 }, { name := "S", type := 9, offset := 2, embedded := false, tag := "", pkgPath := "", byteOffset := 16 }]).toArray) := by kernel_rfl
theorem z31 : Tryz.prog.sz 31 = some 3 := by kernel_rfl
theorem zr31 : Tryz.prog.zr 31 = some ((([.int .i64 0, .int .i64 0, .string ⟨#[]⟩] : List Value)).toArray) := by kernel_rfl
theorem u32 : Tryz.prog.underlying 32 = some (.slice 31) := by kernel_rfl
theorem z32 : Tryz.prog.sz 32 = some 1 := by kernel_rfl
theorem zr32 : Tryz.prog.zr 32 = some ((([.slice none 0 0] : List Value)).toArray) := by kernel_rfl
theorem u33 : Tryz.prog.underlying 33 = some (.struct ([{ name := "By", type := 31, offset := 0, embedded := false, tag := "", pkgPath := "", byteOffset := 0 }, { name := "Name", type := 9, offset := 3, embedded := false, tag := "", pkgPath := "", byteOffset := 32 }, { name := "Args", type := 32, offset := 4, embedded := false, tag := "", pkgPath := "", byteOffset := 48 }]).toArray) := by kernel_rfl
theorem z33 : Tryz.prog.sz 33 = some 5 := by kernel_rfl
theorem zr33 : Tryz.prog.zr 33 = some ((([.int .i64 0, .int .i64 0, .string ⟨#[]⟩, .string ⟨#[]⟩, .slice none 0 0] : List Value)).toArray) := by kernel_rfl
theorem u34 : Tryz.prog.underlying 34 = some (.struct ([{ name := "By", type := 31, offset := 0, embedded := false, tag := "", pkgPath := "", byteOffset := 0 }, { name := "Name", type := 9, offset := 3, embedded := false, tag := "", pkgPath := "", byteOffset := 32 }, { name := "Args", type := 32, offset := 4, embedded := false, tag := "", pkgPath := "", byteOffset := 48 }]).toArray) := by kernel_rfl
theorem z34 : Tryz.prog.sz 34 = some 5 := by kernel_rfl
theorem zr34 : Tryz.prog.zr 34 = some ((([.int .i64 0, .int .i64 0, .string ⟨#[]⟩, .string ⟨#[]⟩, .slice none 0 0] : List Value)).toArray) := by kernel_rfl
theorem u35 : Tryz.prog.underlying 35 = some (.struct ([{ name := "F", type := 34, offset := 0, embedded := false, tag := "", pkgPath := "", byteOffset := 0 }, { name := "Part", type := 3, offset := 5, embedded := false, tag := "", pkgPath := "", byteOffset := 72 }]).toArray) := by kernel_rfl
theorem z35 : Tryz.prog.sz 35 = some 6 := by kernel_rfl
theorem zr35 : Tryz.prog.zr 35 = some ((([.int .i64 0, .int .i64 0, .string ⟨#[]⟩, .string ⟨#[]⟩, .slice none 0 0, .int .i64 0] : List Value)).toArray) := by kernel_rfl
theorem u36 : Tryz.prog.underlying 36 = some (.struct ([{ name := "F", type := 34, offset := 0, embedded := false, tag := "", pkgPath := "", byteOffset := 0 }, { name := "Part", type := 3, offset := 5, embedded := false, tag := "", pkgPath := "", byteOffset := 72 }]).toArray) := by kernel_rfl
theorem z36 : Tryz.prog.sz 36 = some 6 := by kernel_rfl
theorem zr36 : Tryz.prog.zr 36 = some ((([.int .i64 0, .int .i64 0, .string ⟨#[]⟩, .string ⟨#[]⟩, .slice none 0 0, .int .i64 0] : List Value)).toArray) := by kernel_rfl
theorem u37 : Tryz.prog.underlying 37 = some (.func ([3]).toArray ([3]).toArray false) := by kernel_rfl
theorem z37 : Tryz.prog.sz 37 = some 1 := by kernel_rfl
theorem zr37 : Tryz.prog.zr 37 = some ((([.nilFunc] : List Value)).toArray) := by kernel_rfl
theorem u38 : Tryz.prog.underlying 38 = some (.func ([27]).toArray ([4]).toArray false) := by kernel_rfl
theorem z38 : Tryz.prog.sz 38 = some 1 := by kernel_rfl
theorem zr38 : Tryz.prog.zr 38 = some ((([.nilFunc] : List Value)).toArray) := by kernel_rfl
theorem u39 : Tryz.prog.underlying 39 = some (.func ([24, 34]).toArray ([3]).toArray false) := by kernel_rfl
theorem z39 : Tryz.prog.sz 39 = some 1 := by kernel_rfl
theorem zr39 : Tryz.prog.zr 39 = some ((([.nilFunc] : List Value)).toArray) := by kernel_rfl
theorem u40 : Tryz.prog.underlying 40 = some (.slice 43) := by kernel_rfl
theorem z40 : Tryz.prog.sz 40 = some 1 := by kernel_rfl
theorem zr40 : Tryz.prog.zr 40 = some ((([.slice none 0 0] : List Value)).toArray) := by kernel_rfl
theorem u41 : Tryz.prog.underlying 41 = some (.func ([]).toArray ([40]).toArray false) := by kernel_rfl
theorem z41 : Tryz.prog.sz 41 = some 1 := by kernel_rfl
theorem zr41 : Tryz.prog.zr 41 = some ((([.nilFunc] : List Value)).toArray) := by kernel_rfl
theorem u42 : Tryz.prog.underlying 42 = some (.struct ([{ name := "Name", type := 9, offset := 0, embedded := false, tag := "", pkgPath := "", byteOffset := 0 }, { name := "Arity", type := 3, offset := 1, embedded := false, tag := "", pkgPath := "", byteOffset := 16 }]).toArray) := by kernel_rfl
theorem z42 : Tryz.prog.sz 42 = some 2 := by kernel_rfl
theorem zr42 : Tryz.prog.zr 42 = some ((([.string ⟨#[]⟩, .int .i64 0] : List Value)).toArray) := by kernel_rfl
theorem u43 : Tryz.prog.underlying 43 = some (.struct ([{ name := "Name", type := 9, offset := 0, embedded := false, tag := "", pkgPath := "", byteOffset := 0 }, { name := "Arity", type := 3, offset := 1, embedded := false, tag := "", pkgPath := "", byteOffset := 16 }]).toArray) := by kernel_rfl
theorem z43 : Tryz.prog.sz 43 = some 2 := by kernel_rfl
theorem zr43 : Tryz.prog.zr 43 = some ((([.string ⟨#[]⟩, .int .i64 0] : List Value)).toArray) := by kernel_rfl
theorem u44 : Tryz.prog.underlying 44 = some (.func ([]).toArray ([4]).toArray false) := by kernel_rfl
theorem z44 : Tryz.prog.sz 44 = some 1 := by kernel_rfl
theorem zr44 : Tryz.prog.zr 44 = some ((([.nilFunc] : List Value)).toArray) := by kernel_rfl
theorem u45 : Tryz.prog.underlying 45 = some (.func ([22, 3]).toArray ([4]).toArray false) := by kernel_rfl
theorem z45 : Tryz.prog.sz 45 = some 1 := by kernel_rfl
theorem zr45 : Tryz.prog.zr 45 = some ((([.nilFunc] : List Value)).toArray) := by kernel_rfl
theorem u46 : Tryz.prog.underlying 46 = some (.func ([23, 3, 34]).toArray ([27]).toArray false) := by kernel_rfl
theorem z46 : Tryz.prog.sz 46 = some 1 := by kernel_rfl
theorem zr46 : Tryz.prog.zr 46 = some ((([.nilFunc] : List Value)).toArray) := by kernel_rfl
theorem u47 : Tryz.prog.underlying 47 = some (.slice 103) := by kernel_rfl
theorem z47 : Tryz.prog.sz 47 = some 1 := by kernel_rfl
theorem zr47 : Tryz.prog.zr 47 = some ((([.slice none 0 0] : List Value)).toArray) := by kernel_rfl
theorem u48 : Tryz.prog.underlying 48 = some (.slice 103) := by kernel_rfl
theorem z48 : Tryz.prog.sz 48 = some 1 := by kernel_rfl
theorem zr48 : Tryz.prog.zr 48 = some ((([.slice none 0 0] : List Value)).toArray) := by kernel_rfl
theorem u49 : Tryz.prog.underlying 49 = some (.tuple ([48, 4]).toArray) := by kernel_rfl
theorem z49 : Tryz.prog.sz 49 = some 1 := by kernel_rfl
theorem u50 : Tryz.prog.underlying 50 = some (.func ([34, 34, 48]).toArray ([48, 4]).toArray false) := by kernel_rfl
theorem z50 : Tryz.prog.sz 50 = some 1 := by kernel_rfl
theorem zr50 : Tryz.prog.zr 50 = some ((([.nilFunc] : List Value)).toArray) := by kernel_rfl
theorem u51 : Tryz.prog.underlying 51 = some (.func ([22, 3, 34]).toArray ([4]).toArray false) := by kernel_rfl
theorem z51 : Tryz.prog.sz 51 = some 1 := by kernel_rfl
theorem zr51 : Tryz.prog.zr 51 = some ((([.nilFunc] : List Value)).toArray) := by kernel_rfl
theorem u52 : Tryz.prog.underlying 52 = some (.func ([34]).toArray ([34]).toArray false) := by kernel_rfl
theorem z52 : Tryz.prog.sz 52 = some 1 := by kernel_rfl
theorem zr52 : Tryz.prog.zr 52 = some ((([.nilFunc] : List Value)).toArray) := by kernel_rfl
theorem u53 : Tryz.prog.underlying 53 = some (.func ([78]).toArray ([]).toArray false) := by kernel_rfl
theorem z53 : Tryz.prog.sz 53 = some 1 := by kernel_rfl
theorem zr53 : Tryz.prog.zr 53 = some ((([.nilFunc] : List Value)).toArray) := by kernel_rfl
theorem u54 : Tryz.prog.underlying 54 = some (.func ([78]).toArray ([]).toArray false) := by kernel_rfl
theorem z54 : Tryz.prog.sz 54 = some 1 := by kernel_rfl
theorem zr54 : Tryz.prog.zr 54 = some ((([.nilFunc] : List Value)).toArray) := by kernel_rfl
theorem u55 : Tryz.prog.underlying 55 = some (.func ([3, 34]).toArray ([54]).toArray false) := by kernel_rfl
theorem z55 : Tryz.prog.sz 55 = some 1 := by kernel_rfl
theorem zr55 : Tryz.prog.zr 55 = some ((([.nilFunc] : List Value)).toArray) := by kernel_rfl
theorem u56 : Tryz.prog.underlying 56 = some (.func ([34, 34]).toArray ([4]).toArray false) := by kernel_rfl
theorem z56 : Tryz.prog.sz 56 = some 1 := by kernel_rfl
theorem zr56 : Tryz.prog.zr 56 = some ((([.nilFunc] : List Value)).toArray) := by kernel_rfl
theorem u57 : Tryz.prog.underlying 57 = some (.int .i64) := by kernel_rfl
theorem z57 : Tryz.prog.sz 57 = some 1 := by kernel_rfl
theorem zr57 : Tryz.prog.zr 57 = some ((([.int .i64 0] : List Value)).toArray) := by kernel_rfl
theorem u58 : Tryz.prog.underlying 58 = some (.tuple ([4, 57]).toArray) := by kernel_rfl
theorem z58 : Tryz.prog.sz 58 = some 1 := by kernel_rfl
theorem u59 : Tryz.prog.underlying 59 = some (.func ([34]).toArray ([4, 57]).toArray false) := by kernel_rfl
theorem z59 : Tryz.prog.sz 59 = some 1 := by kernel_rfl
theorem zr59 : Tryz.prog.zr 59 = some ((([.nilFunc] : List Value)).toArray) := by kernel_rfl
theorem u60 : Tryz.prog.underlying 60 = some (.func ([]).toArray ([3]).toArray false) := by kernel_rfl
theorem z60 : Tryz.prog.sz 60 = some 1 := by kernel_rfl
theorem zr60 : Tryz.prog.zr 60 = some ((([.nilFunc] : List Value)).toArray) := by kernel_rfl
theorem u61 : Tryz.prog.underlying 61 = some (.func ([3]).toArray ([34]).toArray false) := by kernel_rfl
theorem z61 : Tryz.prog.sz 61 = some 1 := by kernel_rfl
theorem zr61 : Tryz.prog.zr 61 = some ((([.nilFunc] : List Value)).toArray) := by kernel_rfl
theorem u62 : Tryz.prog.underlying 62 = some (.func ([22, 3, 34, 27, 3]).toArray ([4]).toArray false) := by kernel_rfl
theorem z62 : Tryz.prog.sz 62 = some 1 := by kernel_rfl
theorem zr62 : Tryz.prog.zr 62 = some ((([.nilFunc] : List Value)).toArray) := by kernel_rfl
theorem u63 : Tryz.prog.underlying 63 = some (.func ([]).toArray ([23]).toArray false) := by kernel_rfl
theorem z63 : Tryz.prog.sz 63 = some 1 := by kernel_rfl
theorem zr63 : Tryz.prog.zr 63 = some ((([.nilFunc] : List Value)).toArray) := by kernel_rfl
theorem u64 : Tryz.prog.underlying 64 = some (.struct ([{ name := "Kind", type := 3, offset := 0, embedded := false, tag := "", pkgPath := "", byteOffset := 0 }, { name := "F", type := 34, offset := 1, embedded := false, tag := "", pkgPath := "", byteOffset := 8 }, { name := "N", type := 3, offset := 6, embedded := false, tag := "", pkgPath := "", byteOffset := 80 }, { name := "Other", type := 4, offset := 7, embedded := false, tag := "", pkgPath := "", byteOffset := 88 }]).toArray) := by kernel_rfl
theorem z64 : Tryz.prog.sz 64 = some 8 := by kernel_rfl
theorem zr64 : Tryz.prog.zr 64 = some ((([.int .i64 0, .int .i64 0, .int .i64 0, .string ⟨#[]⟩, .string ⟨#[]⟩, .slice none 0 0, .int .i64 0, .bool false] : List Value)).toArray) := by kernel_rfl
theorem u65 : Tryz.prog.underlying 65 = some (.struct ([{ name := "Kind", type := 3, offset := 0, embedded := false, tag := "", pkgPath := "", byteOffset := 0 }, { name := "F", type := 34, offset := 1, embedded := false, tag := "", pkgPath := "", byteOffset := 8 }, { name := "N", type := 3, offset := 6, embedded := false, tag := "", pkgPath := "", byteOffset := 80 }, { name := "Other", type := 4, offset := 7, embedded := false, tag := "", pkgPath := "", byteOffset := 88 }]).toArray) := by kernel_rfl
theorem z65 : Tryz.prog.sz 65 = some 8 := by kernel_rfl
theorem zr65 : Tryz.prog.zr 65 = some ((([.int .i64 0, .int .i64 0, .int .i64 0, .string ⟨#[]⟩, .string ⟨#[]⟩, .slice none 0 0, .int .i64 0, .bool false] : List Value)).toArray) := by kernel_rfl
theorem u66 : Tryz.prog.underlying 66 = some (.slice 71) := by kernel_rfl
theorem z66 : Tryz.prog.sz 66 = some 1 := by kernel_rfl
theorem zr66 : Tryz.prog.zr 66 = some ((([.slice none 0 0] : List Value)).toArray) := by kernel_rfl
theorem u67 : Tryz.prog.underlying 67 = some (.func ([27, 27]).toArray ([4]).toArray false) := by kernel_rfl
theorem z67 : Tryz.prog.sz 67 = some 1 := by kernel_rfl
theorem zr67 : Tryz.prog.zr 67 = some ((([.nilFunc] : List Value)).toArray) := by kernel_rfl
theorem u68 : Tryz.prog.underlying 68 = some (.func ([40, 40]).toArray ([4]).toArray false) := by kernel_rfl
theorem z68 : Tryz.prog.sz 68 = some 1 := by kernel_rfl
theorem zr68 : Tryz.prog.zr 68 = some ((([.nilFunc] : List Value)).toArray) := by kernel_rfl
theorem u69 : Tryz.prog.underlying 69 = some (.slice 32) := by kernel_rfl
theorem z69 : Tryz.prog.sz 69 = some 1 := by kernel_rfl
theorem zr69 : Tryz.prog.zr 69 = some ((([.slice none 0 0] : List Value)).toArray) := by kernel_rfl
theorem u70 : Tryz.prog.underlying 70 = some (.struct ([{ name := "L", type := 27, offset := 0, embedded := false, tag := "", pkgPath := "", byteOffset := 0 }, { name := "More", type := 27, offset := 1, embedded := false, tag := "", pkgPath := "", byteOffset := 24 }, { name := "Args", type := 69, offset := 2, embedded := false, tag := "", pkgPath := "", byteOffset := 48 }, { name := "Tail", type := 69, offset := 3, embedded := false, tag := "", pkgPath := "", byteOffset := 72 }, { name := "Mark", type := 3, offset := 4, embedded := false, tag := "", pkgPath := "", byteOffset := 96 }]).toArray) := by kernel_rfl
theorem z70 : Tryz.prog.sz 70 = some 5 := by kernel_rfl
theorem zr70 : Tryz.prog.zr 70 = some ((([.slice none 0 0, .slice none 0 0, .slice none 0 0, .slice none 0 0, .int .i64 0] : List Value)).toArray) := by kernel_rfl
theorem u71 : Tryz.prog.underlying 71 = some (.struct ([{ name := "L", type := 27, offset := 0, embedded := false, tag := "", pkgPath := "", byteOffset := 0 }, { name := "More", type := 27, offset := 1, embedded := false, tag := "", pkgPath := "", byteOffset := 24 }, { name := "Args", type := 69, offset := 2, embedded := false, tag := "", pkgPath := "", byteOffset := 48 }, { name := "Tail", type := 69, offset := 3, embedded := false, tag := "", pkgPath := "", byteOffset := 72 }, { name := "Mark", type := 3, offset := 4, embedded := false, tag := "", pkgPath := "", byteOffset := 96 }]).toArray) := by kernel_rfl
theorem z71 : Tryz.prog.sz 71 = some 5 := by kernel_rfl
theorem zr71 : Tryz.prog.zr 71 = some ((([.slice none 0 0, .slice none 0 0, .slice none 0 0, .slice none 0 0, .int .i64 0] : List Value)).toArray) := by kernel_rfl
theorem u72 : Tryz.prog.underlying 72 = some (.func ([27, 3]).toArray ([71]).toArray false) := by kernel_rfl
theorem z72 : Tryz.prog.sz 72 = some 1 := by kernel_rfl
theorem zr72 : Tryz.prog.zr 72 = some ((([.nilFunc] : List Value)).toArray) := by kernel_rfl
theorem u73 : Tryz.prog.underlying 73 = some (.slice 27) := by kernel_rfl
theorem z73 : Tryz.prog.sz 73 = some 1 := by kernel_rfl
theorem zr73 : Tryz.prog.zr 73 = some ((([.slice none 0 0] : List Value)).toArray) := by kernel_rfl
theorem u74 : Tryz.prog.underlying 74 = some (.slice 3) := by kernel_rfl
theorem z74 : Tryz.prog.sz 74 = some 1 := by kernel_rfl
theorem zr74 : Tryz.prog.zr 74 = some ((([.slice none 0 0] : List Value)).toArray) := by kernel_rfl
theorem u75 : Tryz.prog.underlying 75 = some (.func ([73, 74]).toArray ([4]).toArray false) := by kernel_rfl
theorem z75 : Tryz.prog.sz 75 = some 1 := by kernel_rfl
theorem zr75 : Tryz.prog.zr 75 = some ((([.nilFunc] : List Value)).toArray) := by kernel_rfl
theorem u76 : Tryz.prog.underlying 76 = some (.func ([22, 3, 3]).toArray ([4]).toArray false) := by kernel_rfl
theorem z76 : Tryz.prog.sz 76 = some 1 := by kernel_rfl
theorem zr76 : Tryz.prog.zr 76 = some ((([.nilFunc] : List Value)).toArray) := by kernel_rfl
theorem u77 : Tryz.prog.underlying 77 = some (.func ([22]).toArray ([4]).toArray false) := by kernel_rfl
theorem z77 : Tryz.prog.sz 77 = some 1 := by kernel_rfl
theorem zr77 : Tryz.prog.zr 77 = some ((([.nilFunc] : List Value)).toArray) := by kernel_rfl
theorem u78 : Tryz.prog.underlying 78 = some (.func ([34]).toArray ([4]).toArray false) := by kernel_rfl
theorem z78 : Tryz.prog.sz 78 = some 1 := by kernel_rfl
theorem zr78 : Tryz.prog.zr 78 = some ((([.nilFunc] : List Value)).toArray) := by kernel_rfl
theorem u79 : Tryz.prog.underlying 79 = some (.map 31 3) := by kernel_rfl
theorem z79 : Tryz.prog.sz 79 = some 1 := by kernel_rfl
theorem zr79 : Tryz.prog.zr 79 = some ((([.map none] : List Value)).toArray) := by kernel_rfl
theorem u80 : Tryz.prog.underlying 80 = some (.struct ([{ name := "numbers", type := 79, offset := 0, embedded := false, tag := "", pkgPath := "hearsay/base", byteOffset := 0 }, { name := "values", type := 32, offset := 1, embedded := false, tag := "", pkgPath := "hearsay/base", byteOffset := 8 }]).toArray) := by kernel_rfl
theorem z80 : Tryz.prog.sz 80 = some 2 := by kernel_rfl
theorem zr80 : Tryz.prog.zr 80 = some ((([.map none, .slice none 0 0] : List Value)).toArray) := by kernel_rfl
theorem u81 : Tryz.prog.underlying 81 = some (.struct ([{ name := "numbers", type := 79, offset := 0, embedded := false, tag := "", pkgPath := "hearsay/base", byteOffset := 0 }, { name := "values", type := 32, offset := 1, embedded := false, tag := "", pkgPath := "hearsay/base", byteOffset := 8 }]).toArray) := by kernel_rfl
theorem z81 : Tryz.prog.sz 81 = some 2 := by kernel_rfl
theorem zr81 : Tryz.prog.zr 81 = some ((([.map none, .slice none 0 0] : List Value)).toArray) := by kernel_rfl
theorem u82 : Tryz.prog.underlying 82 = some (.map 43 85) := by kernel_rfl
theorem z82 : Tryz.prog.sz 82 = some 1 := by kernel_rfl
theorem zr82 : Tryz.prog.zr 82 = some ((([.map none] : List Value)).toArray) := by kernel_rfl
theorem u83 : Tryz.prog.underlying 83 = some (.struct ([{ name := "table", type := 81, offset := 0, embedded := true, tag := "", pkgPath := "hearsay/base", byteOffset := 0 }, { name := "rels", type := 82, offset := 2, embedded := false, tag := "", pkgPath := "hearsay/base", byteOffset := 32 }]).toArray) := by kernel_rfl
theorem z83 : Tryz.prog.sz 83 = some 3 := by kernel_rfl
theorem zr83 : Tryz.prog.zr 83 = some ((([.map none, .slice none 0 0, .map none] : List Value)).toArray) := by kernel_rfl
theorem u84 : Tryz.prog.underlying 84 = some (.struct ([{ name := "table", type := 81, offset := 0, embedded := true, tag := "", pkgPath := "hearsay/base", byteOffset := 0 }, { name := "rels", type := 82, offset := 2, embedded := false, tag := "", pkgPath := "hearsay/base", byteOffset := 32 }]).toArray) := by kernel_rfl
theorem z84 : Tryz.prog.sz 84 = some 3 := by kernel_rfl
theorem zr84 : Tryz.prog.zr 84 = some ((([.map none, .slice none 0 0, .map none] : List Value)).toArray) := by kernel_rfl
theorem u85 : Tryz.prog.underlying 85 = some (.pointer 142) := by kernel_rfl
theorem z85 : Tryz.prog.sz 85 = some 1 := by kernel_rfl
theorem zr85 : Tryz.prog.zr 85 = some ((([.pointer none] : List Value)).toArray) := by kernel_rfl
theorem u86 : Tryz.prog.underlying 86 = some (.slice 74) := by kernel_rfl
theorem z86 : Tryz.prog.sz 86 = some 1 := by kernel_rfl
theorem zr86 : Tryz.prog.zr 86 = some ((([.slice none 0 0] : List Value)).toArray) := by kernel_rfl
theorem u87 : Tryz.prog.underlying 87 = some (.func ([3]).toArray ([86]).toArray false) := by kernel_rfl
theorem z87 : Tryz.prog.sz 87 = some 1 := by kernel_rfl
theorem zr87 : Tryz.prog.zr 87 = some ((([.nilFunc] : List Value)).toArray) := by kernel_rfl
theorem u88 : Tryz.prog.underlying 88 = some (.func ([43, 74]).toArray ([34]).toArray false) := by kernel_rfl
theorem z88 : Tryz.prog.sz 88 = some 1 := by kernel_rfl
theorem zr88 : Tryz.prog.zr 88 = some ((([.nilFunc] : List Value)).toArray) := by kernel_rfl
theorem u89 : Tryz.prog.underlying 89 = some (.func ([27, 90]).toArray ([]).toArray false) := by kernel_rfl
theorem z89 : Tryz.prog.sz 89 = some 1 := by kernel_rfl
theorem zr89 : Tryz.prog.zr 89 = some ((([.nilFunc] : List Value)).toArray) := by kernel_rfl
theorem u90 : Tryz.prog.underlying 90 = some (.func ([34, 34]).toArray ([3]).toArray false) := by kernel_rfl
theorem z90 : Tryz.prog.sz 90 = some 1 := by kernel_rfl
theorem zr90 : Tryz.prog.zr 90 = some ((([.nilFunc] : List Value)).toArray) := by kernel_rfl
theorem u91 : Tryz.prog.underlying 91 = some (.func ([34]).toArray ([43]).toArray false) := by kernel_rfl
theorem z91 : Tryz.prog.sz 91 = some 1 := by kernel_rfl
theorem zr91 : Tryz.prog.zr 91 = some ((([.nilFunc] : List Value)).toArray) := by kernel_rfl
theorem u92 : Tryz.prog.underlying 92 = some (.tuple ([74, 4]).toArray) := by kernel_rfl
theorem z92 : Tryz.prog.sz 92 = some 1 := by kernel_rfl
theorem u93 : Tryz.prog.underlying 93 = some (.func ([34]).toArray ([74, 4]).toArray false) := by kernel_rfl
theorem z93 : Tryz.prog.sz 93 = some 1 := by kernel_rfl
theorem zr93 : Tryz.prog.zr 93 = some ((([.nilFunc] : List Value)).toArray) := by kernel_rfl
theorem u94 : Tryz.prog.underlying 94 = some (.func ([74]).toArray ([3]).toArray false) := by kernel_rfl
theorem z94 : Tryz.prog.sz 94 = some 1 := by kernel_rfl
theorem zr94 : Tryz.prog.zr 94 = some ((([.nilFunc] : List Value)).toArray) := by kernel_rfl
theorem u95 : Tryz.prog.underlying 95 = some (.func ([40, 99]).toArray ([]).toArray false) := by kernel_rfl
theorem z95 : Tryz.prog.sz 95 = some 1 := by kernel_rfl
theorem zr95 : Tryz.prog.zr 95 = some ((([.nilFunc] : List Value)).toArray) := by kernel_rfl
theorem u96 : Tryz.prog.underlying 96 = some (.func ([74]).toArray ([3]).toArray true) := by kernel_rfl
theorem z96 : Tryz.prog.sz 96 = some 1 := by kernel_rfl
theorem zr96 : Tryz.prog.zr 96 = some ((([.nilFunc] : List Value)).toArray) := by kernel_rfl
theorem u97 : Tryz.prog.underlying 97 = some (.func ([9, 9]).toArray ([3]).toArray false) := by kernel_rfl
theorem z97 : Tryz.prog.sz 97 = some 1 := by kernel_rfl
theorem zr97 : Tryz.prog.zr 97 = some ((([.nilFunc] : List Value)).toArray) := by kernel_rfl
theorem u98 : Tryz.prog.underlying 98 = some (.func ([3, 3]).toArray ([3]).toArray false) := by kernel_rfl
theorem z98 : Tryz.prog.sz 98 = some 1 := by kernel_rfl
theorem zr98 : Tryz.prog.zr 98 = some ((([.nilFunc] : List Value)).toArray) := by kernel_rfl
theorem u99 : Tryz.prog.underlying 99 = some (.func ([43, 43]).toArray ([3]).toArray false) := by kernel_rfl
theorem z99 : Tryz.prog.sz 99 = some 1 := by kernel_rfl
theorem zr99 : Tryz.prog.zr 99 = some ((([.nilFunc] : List Value)).toArray) := by kernel_rfl
theorem u100 : Tryz.prog.underlying 100 = some (.func ([31]).toArray ([4]).toArray false) := by kernel_rfl
theorem z100 : Tryz.prog.sz 100 = some 1 := by kernel_rfl
theorem zr100 : Tryz.prog.zr 100 = some ((([.nilFunc] : List Value)).toArray) := by kernel_rfl
theorem u101 : Tryz.prog.underlying 101 = some (.map 3 31) := by kernel_rfl
theorem z101 : Tryz.prog.sz 101 = some 1 := by kernel_rfl
theorem zr101 : Tryz.prog.zr 101 = some ((([.map none] : List Value)).toArray) := by kernel_rfl
theorem u102 : Tryz.prog.underlying 102 = some (.struct ([{ name := "Var", type := 3, offset := 0, embedded := false, tag := "", pkgPath := "", byteOffset := 0 }, { name := "To", type := 31, offset := 1, embedded := false, tag := "", pkgPath := "", byteOffset := 8 }]).toArray) := by kernel_rfl
theorem z102 : Tryz.prog.sz 102 = some 4 := by kernel_rfl
theorem zr102 : Tryz.prog.zr 102 = some ((([.int .i64 0, .int .i64 0, .int .i64 0, .string ⟨#[]⟩] : List Value)).toArray) := by kernel_rfl
theorem u103 : Tryz.prog.underlying 103 = some (.struct ([{ name := "Var", type := 3, offset := 0, embedded := false, tag := "", pkgPath := "", byteOffset := 0 }, { name := "To", type := 31, offset := 1, embedded := false, tag := "", pkgPath := "", byteOffset := 8 }]).toArray) := by kernel_rfl
theorem z103 : Tryz.prog.sz 103 = some 4 := by kernel_rfl
theorem zr103 : Tryz.prog.zr 103 = some ((([.int .i64 0, .int .i64 0, .int .i64 0, .string ⟨#[]⟩] : List Value)).toArray) := by kernel_rfl
theorem u104 : Tryz.prog.underlying 104 = some (.tuple ([31, 4]).toArray) := by kernel_rfl
theorem z104 : Tryz.prog.sz 104 = some 1 := by kernel_rfl
theorem u105 : Tryz.prog.underlying 105 = some (.func ([34]).toArray ([32]).toArray false) := by kernel_rfl
theorem z105 : Tryz.prog.sz 105 = some 1 := by kernel_rfl
theorem zr105 : Tryz.prog.zr 105 = some ((([.nilFunc] : List Value)).toArray) := by kernel_rfl
theorem u106 : Tryz.prog.underlying 106 = some (.func ([101]).toArray ([48]).toArray false) := by kernel_rfl
theorem z106 : Tryz.prog.sz 106 = some 1 := by kernel_rfl
theorem zr106 : Tryz.prog.zr 106 = some ((([.nilFunc] : List Value)).toArray) := by kernel_rfl
theorem u107 : Tryz.prog.underlying 107 = some (.func ([32]).toArray ([32]).toArray false) := by kernel_rfl
theorem z107 : Tryz.prog.sz 107 = some 1 := by kernel_rfl
theorem zr107 : Tryz.prog.zr 107 = some ((([.nilFunc] : List Value)).toArray) := by kernel_rfl
theorem u108 : Tryz.prog.underlying 108 = some (.func ([3, 34]).toArray ([27]).toArray false) := by kernel_rfl
theorem z108 : Tryz.prog.sz 108 = some 1 := by kernel_rfl
theorem zr108 : Tryz.prog.zr 108 = some ((([.nilFunc] : List Value)).toArray) := by kernel_rfl
theorem u109 : Tryz.prog.underlying 109 = some (.func ([32, 32]).toArray ([4]).toArray false) := by kernel_rfl
theorem z109 : Tryz.prog.sz 109 = some 1 := by kernel_rfl
theorem zr109 : Tryz.prog.zr 109 = some ((([.nilFunc] : List Value)).toArray) := by kernel_rfl
theorem u110 : Tryz.prog.underlying 110 = some (.tuple ([85, 57]).toArray) := by kernel_rfl
theorem z110 : Tryz.prog.sz 110 = some 1 := by kernel_rfl
theorem u111 : Tryz.prog.underlying 111 = some (.func ([3]).toArray ([85, 57]).toArray false) := by kernel_rfl
theorem z111 : Tryz.prog.sz 111 = some 1 := by kernel_rfl
theorem zr111 : Tryz.prog.zr 111 = some ((([.nilFunc] : List Value)).toArray) := by kernel_rfl
theorem u112 : Tryz.prog.underlying 112 = some (.func ([31]).toArray ([3]).toArray false) := by kernel_rfl
theorem z112 : Tryz.prog.sz 112 = some 1 := by kernel_rfl
theorem zr112 : Tryz.prog.zr 112 = some ((([.nilFunc] : List Value)).toArray) := by kernel_rfl
theorem u113 : Tryz.prog.underlying 113 = some (.func ([74]).toArray ([4, 57]).toArray false) := by kernel_rfl
theorem z113 : Tryz.prog.sz 113 = some 1 := by kernel_rfl
theorem zr113 : Tryz.prog.zr 113 = some ((([.nilFunc] : List Value)).toArray) := by kernel_rfl
theorem u114 : Tryz.prog.underlying 114 = some (.pointer 158) := by kernel_rfl
theorem z114 : Tryz.prog.sz 114 = some 1 := by kernel_rfl
theorem zr114 : Tryz.prog.zr 114 = some ((([.pointer none] : List Value)).toArray) := by kernel_rfl
theorem u115 : Tryz.prog.underlying 115 = some (.func ([]).toArray ([114]).toArray false) := by kernel_rfl
theorem z115 : Tryz.prog.sz 115 = some 1 := by kernel_rfl
theorem zr115 : Tryz.prog.zr 115 = some ((([.nilFunc] : List Value)).toArray) := by kernel_rfl
theorem u116 : Tryz.prog.underlying 116 = some (.func ([23, 114, 65, 3, 3]).toArray ([4]).toArray false) := by kernel_rfl
theorem z116 : Tryz.prog.sz 116 = some 1 := by kernel_rfl
theorem zr116 : Tryz.prog.zr 116 = some ((([.nilFunc] : List Value)).toArray) := by kernel_rfl
theorem u117 : Tryz.prog.underlying 117 = some (.func ([34]).toArray ([57]).toArray false) := by kernel_rfl
theorem z117 : Tryz.prog.sz 117 = some 1 := by kernel_rfl
theorem zr117 : Tryz.prog.zr 117 = some ((([.nilFunc] : List Value)).toArray) := by kernel_rfl
theorem u118 : Tryz.prog.underlying 118 = some (.func ([32, 100]).toArray ([4]).toArray false) := by kernel_rfl
theorem z118 : Tryz.prog.sz 118 = some 1 := by kernel_rfl
theorem zr118 : Tryz.prog.zr 118 = some ((([.nilFunc] : List Value)).toArray) := by kernel_rfl
theorem u119 : Tryz.prog.underlying 119 = some (.func ([163]).toArray ([]).toArray false) := by kernel_rfl
theorem z119 : Tryz.prog.sz 119 = some 1 := by kernel_rfl
theorem zr119 : Tryz.prog.zr 119 = some ((([.nilFunc] : List Value)).toArray) := by kernel_rfl
theorem u120 : Tryz.prog.underlying 120 = some (.func ([163]).toArray ([]).toArray false) := by kernel_rfl
theorem z120 : Tryz.prog.sz 120 = some 1 := by kernel_rfl
theorem zr120 : Tryz.prog.zr 120 = some ((([.nilFunc] : List Value)).toArray) := by kernel_rfl
theorem u121 : Tryz.prog.underlying 121 = some (.func ([3, 74, 74]).toArray ([120]).toArray false) := by kernel_rfl
theorem z121 : Tryz.prog.sz 121 = some 1 := by kernel_rfl
theorem zr121 : Tryz.prog.zr 121 = some ((([.nilFunc] : List Value)).toArray) := by kernel_rfl
theorem u122 : Tryz.prog.underlying 122 = some (.func ([3]).toArray ([31]).toArray false) := by kernel_rfl
theorem z122 : Tryz.prog.sz 122 = some 1 := by kernel_rfl
theorem zr122 : Tryz.prog.zr 122 = some ((([.nilFunc] : List Value)).toArray) := by kernel_rfl
theorem u123 : Tryz.prog.underlying 123 = some (.func ([27, 3, 3, 3, 90]).toArray ([]).toArray false) := by kernel_rfl
theorem z123 : Tryz.prog.sz 123 = some 1 := by kernel_rfl
theorem zr123 : Tryz.prog.zr 123 = some ((([.nilFunc] : List Value)).toArray) := by kernel_rfl
theorem u124 : Tryz.prog.underlying 124 = some (.func ([125]).toArray ([3]).toArray false) := by kernel_rfl
theorem z124 : Tryz.prog.sz 124 = some 1 := by kernel_rfl
theorem zr124 : Tryz.prog.zr 124 = some ((([.nilFunc] : List Value)).toArray) := by kernel_rfl
theorem u125 : Tryz.prog.underlying 125 = some (.int .u64) := by kernel_rfl
theorem z125 : Tryz.prog.sz 125 = some 1 := by kernel_rfl
theorem zr125 : Tryz.prog.zr 125 = some ((([.int .u64 0] : List Value)).toArray) := by kernel_rfl
theorem u126 : Tryz.prog.underlying 126 = some (.func ([31, 31]).toArray ([3]).toArray false) := by kernel_rfl
theorem z126 : Tryz.prog.sz 126 = some 1 := by kernel_rfl
theorem zr126 : Tryz.prog.zr 126 = some ((([.nilFunc] : List Value)).toArray) := by kernel_rfl
theorem u127 : Tryz.prog.underlying 127 = some (.func ([32, 32, 126]).toArray ([3]).toArray false) := by kernel_rfl
theorem z127 : Tryz.prog.sz 127 = some 1 := by kernel_rfl
theorem zr127 : Tryz.prog.zr 127 = some ((([.nilFunc] : List Value)).toArray) := by kernel_rfl
theorem u128 : Tryz.prog.underlying 128 = some (.tuple ([3, 4]).toArray) := by kernel_rfl
theorem z128 : Tryz.prog.sz 128 = some 1 := by kernel_rfl
theorem u129 : Tryz.prog.underlying 129 = some (.func ([31]).toArray ([3, 4]).toArray false) := by kernel_rfl
theorem z129 : Tryz.prog.sz 129 = some 1 := by kernel_rfl
theorem zr129 : Tryz.prog.zr 129 = some ((([.nilFunc] : List Value)).toArray) := by kernel_rfl
theorem u130 : Tryz.prog.underlying 130 = some (.map 9 143) := by kernel_rfl
theorem z130 : Tryz.prog.sz 130 = some 1 := by kernel_rfl
theorem zr130 : Tryz.prog.zr 130 = some ((([.map none] : List Value)).toArray) := by kernel_rfl
theorem u131 : Tryz.prog.underlying 131 = some (.slice 143) := by kernel_rfl
theorem z131 : Tryz.prog.sz 131 = some 1 := by kernel_rfl
theorem zr131 : Tryz.prog.zr 131 = some ((([.slice none 0 0] : List Value)).toArray) := by kernel_rfl
theorem u132 : Tryz.prog.underlying 132 = some (.array 8 3) := by kernel_rfl
theorem z132 : Tryz.prog.sz 132 = some 8 := by kernel_rfl
theorem zr132 : Tryz.prog.zr 132 = some ((([.int .i64 0, .int .i64 0, .int .i64 0, .int .i64 0, .int .i64 0, .int .i64 0, .int .i64 0, .int .i64 0] : List Value)).toArray) := by kernel_rfl
theorem u133 : Tryz.prog.underlying 133 = some (.map 9 153) := by kernel_rfl
theorem z133 : Tryz.prog.sz 133 = some 1 := by kernel_rfl
theorem zr133 : Tryz.prog.zr 133 = some ((([.map none] : List Value)).toArray) := by kernel_rfl
theorem u134 : Tryz.prog.underlying 134 = some (.struct ([]).toArray) := by kernel_rfl
theorem z134 : Tryz.prog.sz 134 = some 0 := by kernel_rfl
theorem zr134 : Tryz.prog.zr 134 = some ((([] : List Value)).toArray) := by kernel_rfl
theorem u135 : Tryz.prog.underlying 135 = some (.struct ([]).toArray) := by kernel_rfl
theorem z135 : Tryz.prog.sz 135 = some 0 := by kernel_rfl
theorem zr135 : Tryz.prog.zr 135 = some ((([] : List Value)).toArray) := by kernel_rfl
theorem u136 : Tryz.prog.underlying 136 = some (.int .u32) := by kernel_rfl
theorem z136 : Tryz.prog.sz 136 = some 1 := by kernel_rfl
theorem zr136 : Tryz.prog.zr 136 = some ((([.int .u32 0] : List Value)).toArray) := by kernel_rfl
theorem u137 : Tryz.prog.underlying 137 = some (.struct ([{ name := "state", type := 21, offset := 0, embedded := false, tag := "", pkgPath := "internal/sync", byteOffset := 0 }, { name := "sema", type := 136, offset := 1, embedded := false, tag := "", pkgPath := "internal/sync", byteOffset := 4 }]).toArray) := by kernel_rfl
theorem z137 : Tryz.prog.sz 137 = some 2 := by kernel_rfl
theorem zr137 : Tryz.prog.zr 137 = some ((([.int .i32 0, .int .u32 0] : List Value)).toArray) := by kernel_rfl
theorem u138 : Tryz.prog.underlying 138 = some (.struct ([{ name := "state", type := 21, offset := 0, embedded := false, tag := "", pkgPath := "internal/sync", byteOffset := 0 }, { name := "sema", type := 136, offset := 1, embedded := false, tag := "", pkgPath := "internal/sync", byteOffset := 4 }]).toArray) := by kernel_rfl
theorem z138 : Tryz.prog.sz 138 = some 2 := by kernel_rfl
theorem zr138 : Tryz.prog.zr 138 = some ((([.int .i32 0, .int .u32 0] : List Value)).toArray) := by kernel_rfl
theorem u139 : Tryz.prog.underlying 139 = some (.struct ([{ name := "_", type := 135, offset := 0, embedded := false, tag := "", pkgPath := "sync", byteOffset := 0 }, { name := "mu", type := 138, offset := 0, embedded := false, tag := "", pkgPath := "sync", byteOffset := 0 }]).toArray) := by kernel_rfl
theorem z139 : Tryz.prog.sz 139 = some 2 := by kernel_rfl
theorem zr139 : Tryz.prog.zr 139 = some ((([.int .i32 0, .int .u32 0] : List Value)).toArray) := by kernel_rfl
theorem u140 : Tryz.prog.underlying 140 = some (.struct ([{ name := "_", type := 135, offset := 0, embedded := false, tag := "", pkgPath := "sync", byteOffset := 0 }, { name := "mu", type := 138, offset := 0, embedded := false, tag := "", pkgPath := "sync", byteOffset := 0 }]).toArray) := by kernel_rfl
theorem z140 : Tryz.prog.sz 140 = some 2 := by kernel_rfl
theorem zr140 : Tryz.prog.zr 140 = some ((([.int .i32 0, .int .u32 0] : List Value)).toArray) := by kernel_rfl
theorem u141 : Tryz.prog.underlying 141 = some (.struct ([{ name := "width", type := 3, offset := 0, embedded := false, tag := "", pkgPath := "hearsay/rel", byteOffset := 0 }, { name := "rows", type := 130, offset := 1, embedded := false, tag := "", pkgPath := "hearsay/rel", byteOffset := 8 }, { name := "fresh", type := 131, offset := 2, embedded := false, tag := "", pkgPath := "hearsay/rel", byteOffset := 16 }, { name := "next", type := 131, offset := 3, embedded := false, tag := "", pkgPath := "hearsay/rel", byteOffset := 40 }, { name := "count", type := 132, offset := 4, embedded := false, tag := "", pkgPath := "hearsay/rel", byteOffset := 64 }, { name := "indexes", type := 133, offset := 12, embedded := false, tag := "", pkgPath := "hearsay/rel", byteOffset := 128 }, { name := "making", type := 140, offset := 13, embedded := false, tag := "", pkgPath := "hearsay/rel", byteOffset := 136 }]).toArray) := by kernel_rfl
theorem z141 : Tryz.prog.sz 141 = some 15 := by kernel_rfl
theorem zr141 : Tryz.prog.zr 141 = some ((([.int .i64 0, .map none, .slice none 0 0, .slice none 0 0, .int .i64 0, .int .i64 0, .int .i64 0, .int .i64 0, .int .i64 0, .int .i64 0, .int .i64 0, .int .i64 0, .map none, .int .i32 0, .int .u32 0] : List Value)).toArray) := by kernel_rfl
theorem u142 : Tryz.prog.underlying 142 = some (.struct ([{ name := "width", type := 3, offset := 0, embedded := false, tag := "", pkgPath := "hearsay/rel", byteOffset := 0 }, { name := "rows", type := 130, offset := 1, embedded := false, tag := "", pkgPath := "hearsay/rel", byteOffset := 8 }, { name := "fresh", type := 131, offset := 2, embedded := false, tag := "", pkgPath := "hearsay/rel", byteOffset := 16 }, { name := "next", type := 131, offset := 3, embedded := false, tag := "", pkgPath := "hearsay/rel", byteOffset := 40 }, { name := "count", type := 132, offset := 4, embedded := false, tag := "", pkgPath := "hearsay/rel", byteOffset := 64 }, { name := "indexes", type := 133, offset := 12, embedded := false, tag := "", pkgPath := "hearsay/rel", byteOffset := 128 }, { name := "making", type := 140, offset := 13, embedded := false, tag := "", pkgPath := "hearsay/rel", byteOffset := 136 }]).toArray) := by kernel_rfl
theorem z142 : Tryz.prog.sz 142 = some 15 := by kernel_rfl
theorem zr142 : Tryz.prog.zr 142 = some ((([.int .i64 0, .map none, .slice none 0 0, .slice none 0 0, .int .i64 0, .int .i64 0, .int .i64 0, .int .i64 0, .int .i64 0, .int .i64 0, .int .i64 0, .int .i64 0, .map none, .int .i32 0, .int .u32 0] : List Value)).toArray) := by kernel_rfl
theorem u143 : Tryz.prog.underlying 143 = some (.pointer 146) := by kernel_rfl
theorem z143 : Tryz.prog.sz 143 = some 1 := by kernel_rfl
theorem zr143 : Tryz.prog.zr 143 = some ((([.pointer none] : List Value)).toArray) := by kernel_rfl
theorem u144 : Tryz.prog.underlying 144 = some (.func ([74]).toArray ([9]).toArray false) := by kernel_rfl
theorem z144 : Tryz.prog.sz 144 = some 1 := by kernel_rfl
theorem zr144 : Tryz.prog.zr 144 = some ((([.nilFunc] : List Value)).toArray) := by kernel_rfl
theorem u145 : Tryz.prog.underlying 145 = some (.struct ([{ name := "row", type := 74, offset := 0, embedded := false, tag := "", pkgPath := "hearsay/rel", byteOffset := 0 }, { name := "part", type := 3, offset := 1, embedded := false, tag := "", pkgPath := "hearsay/rel", byteOffset := 24 }]).toArray) := by kernel_rfl
theorem z145 : Tryz.prog.sz 145 = some 2 := by kernel_rfl
theorem zr145 : Tryz.prog.zr 145 = some ((([.slice none 0 0, .int .i64 0] : List Value)).toArray) := by kernel_rfl
theorem u146 : Tryz.prog.underlying 146 = some (.struct ([{ name := "row", type := 74, offset := 0, embedded := false, tag := "", pkgPath := "hearsay/rel", byteOffset := 0 }, { name := "part", type := 3, offset := 1, embedded := false, tag := "", pkgPath := "hearsay/rel", byteOffset := 24 }]).toArray) := by kernel_rfl
theorem z146 : Tryz.prog.sz 146 = some 2 := by kernel_rfl
theorem zr146 : Tryz.prog.zr 146 = some ((([.slice none 0 0, .int .i64 0] : List Value)).toArray) := by kernel_rfl
theorem u147 : Tryz.prog.underlying 147 = some (.func ([40, 3, 3, 3, 99]).toArray ([]).toArray false) := by kernel_rfl
theorem z147 : Tryz.prog.sz 147 = some 1 := by kernel_rfl
theorem zr147 : Tryz.prog.zr 147 = some ((([.nilFunc] : List Value)).toArray) := by kernel_rfl
theorem u148 : Tryz.prog.underlying 148 = some (.func ([3]).toArray ([4]).toArray false) := by kernel_rfl
theorem z148 : Tryz.prog.sz 148 = some 1 := by kernel_rfl
theorem zr148 : Tryz.prog.zr 148 = some ((([.nilFunc] : List Value)).toArray) := by kernel_rfl
theorem u149 : Tryz.prog.underlying 149 = some (.func ([48, 150]).toArray ([]).toArray false) := by kernel_rfl
theorem z149 : Tryz.prog.sz 149 = some 1 := by kernel_rfl
theorem zr149 : Tryz.prog.zr 149 = some ((([.nilFunc] : List Value)).toArray) := by kernel_rfl
theorem u150 : Tryz.prog.underlying 150 = some (.func ([103, 103]).toArray ([3]).toArray false) := by kernel_rfl
theorem z150 : Tryz.prog.sz 150 = some 1 := by kernel_rfl
theorem zr150 : Tryz.prog.zr 150 = some ((([.nilFunc] : List Value)).toArray) := by kernel_rfl
theorem u151 : Tryz.prog.underlying 151 = some (.pointer 81) := by kernel_rfl
theorem z151 : Tryz.prog.sz 151 = some 1 := by kernel_rfl
theorem zr151 : Tryz.prog.zr 151 = some ((([.pointer none] : List Value)).toArray) := by kernel_rfl
theorem u152 : Tryz.prog.underlying 152 = some (.func ([74]).toArray ([74]).toArray false) := by kernel_rfl
theorem z152 : Tryz.prog.sz 152 = some 1 := by kernel_rfl
theorem zr152 : Tryz.prog.zr 152 = some ((([.nilFunc] : List Value)).toArray) := by kernel_rfl
theorem u153 : Tryz.prog.underlying 153 = some (.pointer 166) := by kernel_rfl
theorem z153 : Tryz.prog.sz 153 = some 1 := by kernel_rfl
theorem zr153 : Tryz.prog.zr 153 = some ((([.pointer none] : List Value)).toArray) := by kernel_rfl
theorem u154 : Tryz.prog.underlying 154 = some (.func ([143]).toArray ([]).toArray false) := by kernel_rfl
theorem z154 : Tryz.prog.sz 154 = some 1 := by kernel_rfl
theorem zr154 : Tryz.prog.zr 154 = some ((([.nilFunc] : List Value)).toArray) := by kernel_rfl
theorem u155 : Tryz.prog.underlying 155 = some (.func ([131, 3]).toArray ([]).toArray false) := by kernel_rfl
theorem z155 : Tryz.prog.sz 155 = some 1 := by kernel_rfl
theorem zr155 : Tryz.prog.zr 155 = some ((([.nilFunc] : List Value)).toArray) := by kernel_rfl
theorem u156 : Tryz.prog.underlying 156 = some (.slice 190) := by kernel_rfl
theorem z156 : Tryz.prog.sz 156 = some 1 := by kernel_rfl
theorem zr156 : Tryz.prog.zr 156 = some ((([.slice none 0 0] : List Value)).toArray) := by kernel_rfl
theorem u157 : Tryz.prog.underlying 157 = some (.struct ([{ name := "L", type := 156, offset := 0, embedded := false, tag := "", pkgPath := "", byteOffset := 0 }]).toArray) := by kernel_rfl
theorem z157 : Tryz.prog.sz 157 = some 1 := by kernel_rfl
theorem zr157 : Tryz.prog.zr 157 = some ((([.slice none 0 0] : List Value)).toArray) := by kernel_rfl
theorem u158 : Tryz.prog.underlying 158 = some (.struct ([{ name := "L", type := 156, offset := 0, embedded := false, tag := "", pkgPath := "", byteOffset := 0 }]).toArray) := by kernel_rfl
theorem z158 : Tryz.prog.sz 158 = some 1 := by kernel_rfl
theorem zr158 : Tryz.prog.zr 158 = some ((([.slice none 0 0] : List Value)).toArray) := by kernel_rfl
theorem u159 : Tryz.prog.underlying 159 = some (.func ([9]).toArray ([4]).toArray false) := by kernel_rfl
theorem z159 : Tryz.prog.sz 159 = some 1 := by kernel_rfl
theorem zr159 : Tryz.prog.zr 159 = some ((([.nilFunc] : List Value)).toArray) := by kernel_rfl
theorem u160 : Tryz.prog.underlying 160 = some (.func ([32, 100]).toArray ([3]).toArray false) := by kernel_rfl
theorem z160 : Tryz.prog.sz 160 = some 1 := by kernel_rfl
theorem zr160 : Tryz.prog.zr 160 = some ((([.nilFunc] : List Value)).toArray) := by kernel_rfl
theorem u161 : Tryz.prog.underlying 161 = some (.tuple ([74, 74, 4]).toArray) := by kernel_rfl
theorem z161 : Tryz.prog.sz 161 = some 1 := by kernel_rfl
theorem u162 : Tryz.prog.underlying 162 = some (.func ([74, 74]).toArray ([74, 74, 4]).toArray false) := by kernel_rfl
theorem z162 : Tryz.prog.sz 162 = some 1 := by kernel_rfl
theorem zr162 : Tryz.prog.zr 162 = some ((([.nilFunc] : List Value)).toArray) := by kernel_rfl
theorem u163 : Tryz.prog.underlying 163 = some (.func ([74]).toArray ([4]).toArray false) := by kernel_rfl
theorem z163 : Tryz.prog.sz 163 = some 1 := by kernel_rfl
theorem zr163 : Tryz.prog.zr 163 = some ((([.nilFunc] : List Value)).toArray) := by kernel_rfl
theorem u164 : Tryz.prog.underlying 164 = some (.map 9 131) := by kernel_rfl
theorem z164 : Tryz.prog.sz 164 = some 1 := by kernel_rfl
theorem zr164 : Tryz.prog.zr 164 = some ((([.map none] : List Value)).toArray) := by kernel_rfl
theorem u165 : Tryz.prog.underlying 165 = some (.struct ([{ name := "cols", type := 74, offset := 0, embedded := false, tag := "", pkgPath := "hearsay/rel", byteOffset := 0 }, { name := "rows", type := 164, offset := 1, embedded := false, tag := "", pkgPath := "hearsay/rel", byteOffset := 24 }]).toArray) := by kernel_rfl
theorem z165 : Tryz.prog.sz 165 = some 2 := by kernel_rfl
theorem zr165 : Tryz.prog.zr 165 = some ((([.slice none 0 0, .map none] : List Value)).toArray) := by kernel_rfl
theorem u166 : Tryz.prog.underlying 166 = some (.struct ([{ name := "cols", type := 74, offset := 0, embedded := false, tag := "", pkgPath := "hearsay/rel", byteOffset := 0 }, { name := "rows", type := 164, offset := 1, embedded := false, tag := "", pkgPath := "hearsay/rel", byteOffset := 24 }]).toArray) := by kernel_rfl
theorem z166 : Tryz.prog.sz 166 = some 2 := by kernel_rfl
theorem zr166 : Tryz.prog.zr 166 = some ((([.slice none 0 0, .map none] : List Value)).toArray) := by kernel_rfl
theorem u167 : Tryz.prog.underlying 167 = some (.func ([74]).toArray ([153]).toArray false) := by kernel_rfl
theorem z167 : Tryz.prog.sz 167 = some 1 := by kernel_rfl
theorem zr167 : Tryz.prog.zr 167 = some ((([.nilFunc] : List Value)).toArray) := by kernel_rfl
theorem u168 : Tryz.prog.underlying 168 = some (.func ([86, 169]).toArray ([]).toArray false) := by kernel_rfl
theorem z168 : Tryz.prog.sz 168 = some 1 := by kernel_rfl
theorem zr168 : Tryz.prog.zr 168 = some ((([.nilFunc] : List Value)).toArray) := by kernel_rfl
theorem u169 : Tryz.prog.underlying 169 = some (.func ([74, 74]).toArray ([3]).toArray false) := by kernel_rfl
theorem z169 : Tryz.prog.sz 169 = some 1 := by kernel_rfl
theorem zr169 : Tryz.prog.zr 169 = some ((([.nilFunc] : List Value)).toArray) := by kernel_rfl
theorem u170 : Tryz.prog.underlying 170 = some (.func ([27, 3, 3, 90]).toArray ([]).toArray false) := by kernel_rfl
theorem z170 : Tryz.prog.sz 170 = some 1 := by kernel_rfl
theorem zr170 : Tryz.prog.zr 170 = some ((([.nilFunc] : List Value)).toArray) := by kernel_rfl
theorem u171 : Tryz.prog.underlying 171 = some (.int .i64) := by kernel_rfl
theorem z171 : Tryz.prog.sz 171 = some 1 := by kernel_rfl
theorem zr171 : Tryz.prog.zr 171 = some ((([.int .i64 0] : List Value)).toArray) := by kernel_rfl
theorem u172 : Tryz.prog.underlying 172 = some (.tuple ([3, 171]).toArray) := by kernel_rfl
theorem z172 : Tryz.prog.sz 172 = some 1 := by kernel_rfl
theorem u173 : Tryz.prog.underlying 173 = some (.func ([27, 3, 3, 90]).toArray ([3, 171]).toArray false) := by kernel_rfl
theorem z173 : Tryz.prog.sz 173 = some 1 := by kernel_rfl
theorem zr173 : Tryz.prog.zr 173 = some ((([.nilFunc] : List Value)).toArray) := by kernel_rfl
theorem u174 : Tryz.prog.underlying 174 = some (.func ([27, 3, 3, 90]).toArray ([4]).toArray false) := by kernel_rfl
theorem z174 : Tryz.prog.sz 174 = some 1 := by kernel_rfl
theorem zr174 : Tryz.prog.zr 174 = some ((([.nilFunc] : List Value)).toArray) := by kernel_rfl
theorem u175 : Tryz.prog.underlying 175 = some (.func ([27, 3, 3, 3, 90]).toArray ([3]).toArray false) := by kernel_rfl
theorem z175 : Tryz.prog.sz 175 = some 1 := by kernel_rfl
theorem zr175 : Tryz.prog.zr 175 = some ((([.nilFunc] : List Value)).toArray) := by kernel_rfl
theorem u176 : Tryz.prog.underlying 176 = some (.func ([27, 3, 3, 3, 90]).toArray ([3, 4]).toArray false) := by kernel_rfl
theorem z176 : Tryz.prog.sz 176 = some 1 := by kernel_rfl
theorem zr176 : Tryz.prog.zr 176 = some ((([.nilFunc] : List Value)).toArray) := by kernel_rfl
theorem u177 : Tryz.prog.underlying 177 = some (.func ([136]).toArray ([3]).toArray false) := by kernel_rfl
theorem z177 : Tryz.prog.sz 177 = some 1 := by kernel_rfl
theorem zr177 : Tryz.prog.zr 177 = some ((([.nilFunc] : List Value)).toArray) := by kernel_rfl
theorem u178 : Tryz.prog.underlying 178 = some (.func ([179]).toArray ([3]).toArray false) := by kernel_rfl
theorem z178 : Tryz.prog.sz 178 = some 1 := by kernel_rfl
theorem zr178 : Tryz.prog.zr 178 = some ((([.nilFunc] : List Value)).toArray) := by kernel_rfl
theorem u179 : Tryz.prog.underlying 179 = some (.int .u64) := by kernel_rfl
theorem z179 : Tryz.prog.sz 179 = some 1 := by kernel_rfl
theorem zr179 : Tryz.prog.zr 179 = some ((([.int .u64 0] : List Value)).toArray) := by kernel_rfl
theorem u180 : Tryz.prog.underlying 180 = some (.slice 5) := by kernel_rfl
theorem z180 : Tryz.prog.sz 180 = some 1 := by kernel_rfl
theorem zr180 : Tryz.prog.zr 180 = some ((([.slice none 0 0] : List Value)).toArray) := by kernel_rfl
theorem u181 : Tryz.prog.underlying 181 = some (.func ([180, 2, 3]).toArray ([180]).toArray false) := by kernel_rfl
theorem z181 : Tryz.prog.sz 181 = some 1 := by kernel_rfl
theorem zr181 : Tryz.prog.zr 181 = some ((([.nilFunc] : List Value)).toArray) := by kernel_rfl
theorem u182 : Tryz.prog.underlying 182 = some (.func ([40, 3, 3, 99]).toArray ([]).toArray false) := by kernel_rfl
theorem z182 : Tryz.prog.sz 182 = some 1 := by kernel_rfl
theorem zr182 : Tryz.prog.zr 182 = some ((([.nilFunc] : List Value)).toArray) := by kernel_rfl
theorem u183 : Tryz.prog.underlying 183 = some (.func ([40, 3, 3, 99]).toArray ([3, 171]).toArray false) := by kernel_rfl
theorem z183 : Tryz.prog.sz 183 = some 1 := by kernel_rfl
theorem zr183 : Tryz.prog.zr 183 = some ((([.nilFunc] : List Value)).toArray) := by kernel_rfl
theorem u184 : Tryz.prog.underlying 184 = some (.func ([40, 3, 3, 99]).toArray ([4]).toArray false) := by kernel_rfl
theorem z184 : Tryz.prog.sz 184 = some 1 := by kernel_rfl
theorem zr184 : Tryz.prog.zr 184 = some ((([.nilFunc] : List Value)).toArray) := by kernel_rfl
theorem u185 : Tryz.prog.underlying 185 = some (.func ([40, 3, 3, 3, 99]).toArray ([3]).toArray false) := by kernel_rfl
theorem z185 : Tryz.prog.sz 185 = some 1 := by kernel_rfl
theorem zr185 : Tryz.prog.zr 185 = some ((([.nilFunc] : List Value)).toArray) := by kernel_rfl
theorem u186 : Tryz.prog.underlying 186 = some (.func ([40, 3, 3, 3, 99]).toArray ([3, 4]).toArray false) := by kernel_rfl
theorem z186 : Tryz.prog.sz 186 = some 1 := by kernel_rfl
theorem zr186 : Tryz.prog.zr 186 = some ((([.nilFunc] : List Value)).toArray) := by kernel_rfl
theorem u187 : Tryz.prog.underlying 187 = some (.func ([47, 3, 3, 3, 150]).toArray ([]).toArray false) := by kernel_rfl
theorem z187 : Tryz.prog.sz 187 = some 1 := by kernel_rfl
theorem zr187 : Tryz.prog.zr 187 = some ((([.nilFunc] : List Value)).toArray) := by kernel_rfl
theorem u188 : Tryz.prog.underlying 188 = some (.func ([74, 74]).toArray ([74]).toArray false) := by kernel_rfl
theorem z188 : Tryz.prog.sz 188 = some 1 := by kernel_rfl
theorem zr188 : Tryz.prog.zr 188 = some ((([.nilFunc] : List Value)).toArray) := by kernel_rfl
theorem u189 : Tryz.prog.underlying 189 = some (.struct ([{ name := "F", type := 34, offset := 0, embedded := false, tag := "", pkgPath := "", byteOffset := 0 }, { name := "P", type := 3, offset := 5, embedded := false, tag := "", pkgPath := "", byteOffset := 72 }]).toArray) := by kernel_rfl
theorem z189 : Tryz.prog.sz 189 = some 6 := by kernel_rfl
theorem zr189 : Tryz.prog.zr 189 = some ((([.int .i64 0, .int .i64 0, .string ⟨#[]⟩, .string ⟨#[]⟩, .slice none 0 0, .int .i64 0] : List Value)).toArray) := by kernel_rfl
theorem u190 : Tryz.prog.underlying 190 = some (.struct ([{ name := "F", type := 34, offset := 0, embedded := false, tag := "", pkgPath := "", byteOffset := 0 }, { name := "P", type := 3, offset := 5, embedded := false, tag := "", pkgPath := "", byteOffset := 72 }]).toArray) := by kernel_rfl
theorem z190 : Tryz.prog.sz 190 = some 6 := by kernel_rfl
theorem zr190 : Tryz.prog.zr 190 = some ((([.int .i64 0, .int .i64 0, .string ⟨#[]⟩, .string ⟨#[]⟩, .slice none 0 0, .int .i64 0] : List Value)).toArray) := by kernel_rfl
theorem u191 : Tryz.prog.underlying 191 = some (.func ([3, 3]).toArray ([4]).toArray false) := by kernel_rfl
theorem z191 : Tryz.prog.sz 191 = some 1 := by kernel_rfl
theorem zr191 : Tryz.prog.zr 191 = some ((([.nilFunc] : List Value)).toArray) := by kernel_rfl
theorem u192 : Tryz.prog.underlying 192 = some (.map 3 3) := by kernel_rfl
theorem z192 : Tryz.prog.sz 192 = some 1 := by kernel_rfl
theorem zr192 : Tryz.prog.zr 192 = some ((([.map none] : List Value)).toArray) := by kernel_rfl
theorem u193 : Tryz.prog.underlying 193 = some (.func ([74]).toArray ([]).toArray false) := by kernel_rfl
theorem z193 : Tryz.prog.sz 193 = some 1 := by kernel_rfl
theorem zr193 : Tryz.prog.zr 193 = some ((([.nilFunc] : List Value)).toArray) := by kernel_rfl
theorem u194 : Tryz.prog.underlying 194 = some (.func ([86, 3, 3, 3, 169]).toArray ([]).toArray false) := by kernel_rfl
theorem z194 : Tryz.prog.sz 194 = some 1 := by kernel_rfl
theorem zr194 : Tryz.prog.zr 194 = some ((([.nilFunc] : List Value)).toArray) := by kernel_rfl
theorem u195 : Tryz.prog.underlying 195 = some (.int .u64) := by kernel_rfl
theorem z195 : Tryz.prog.sz 195 = some 1 := by kernel_rfl
theorem zr195 : Tryz.prog.zr 195 = some ((([.int .u64 0] : List Value)).toArray) := by kernel_rfl
theorem u196 : Tryz.prog.underlying 196 = some (.func ([3]).toArray ([125]).toArray false) := by kernel_rfl
theorem z196 : Tryz.prog.sz 196 = some 1 := by kernel_rfl
theorem zr196 : Tryz.prog.zr 196 = some ((([.nilFunc] : List Value)).toArray) := by kernel_rfl
theorem u197 : Tryz.prog.underlying 197 = some (.func ([]).toArray ([179]).toArray false) := by kernel_rfl
theorem z197 : Tryz.prog.sz 197 = some 1 := by kernel_rfl
theorem zr197 : Tryz.prog.zr 197 = some ((([.nilFunc] : List Value)).toArray) := by kernel_rfl
theorem u198 : Tryz.prog.underlying 198 = some (.func ([27, 3, 199, 90]).toArray ([3]).toArray false) := by kernel_rfl
theorem z198 : Tryz.prog.sz 198 = some 1 := by kernel_rfl
theorem zr198 : Tryz.prog.zr 198 = some ((([.nilFunc] : List Value)).toArray) := by kernel_rfl
theorem u199 : Tryz.prog.underlying 199 = some (.pointer 3) := by kernel_rfl
theorem z199 : Tryz.prog.sz 199 = some 1 := by kernel_rfl
theorem zr199 : Tryz.prog.zr 199 = some ((([.pointer none] : List Value)).toArray) := by kernel_rfl
theorem u200 : Tryz.prog.underlying 200 = some (.func ([27, 3, 3, 3, 199, 90]).toArray ([3]).toArray false) := by kernel_rfl
theorem z200 : Tryz.prog.sz 200 = some 1 := by kernel_rfl
theorem zr200 : Tryz.prog.zr 200 = some ((([.nilFunc] : List Value)).toArray) := by kernel_rfl
theorem u201 : Tryz.prog.underlying 201 = some (.func ([40, 3, 199, 99]).toArray ([3]).toArray false) := by kernel_rfl
theorem z201 : Tryz.prog.sz 201 = some 1 := by kernel_rfl
theorem zr201 : Tryz.prog.zr 201 = some ((([.nilFunc] : List Value)).toArray) := by kernel_rfl
theorem u202 : Tryz.prog.underlying 202 = some (.func ([40, 3, 3, 3, 199, 99]).toArray ([3]).toArray false) := by kernel_rfl
theorem z202 : Tryz.prog.sz 202 = some 1 := by kernel_rfl
theorem zr202 : Tryz.prog.zr 202 = some ((([.nilFunc] : List Value)).toArray) := by kernel_rfl
theorem u203 : Tryz.prog.underlying 203 = some (.func ([47, 3, 3, 150]).toArray ([]).toArray false) := by kernel_rfl
theorem z203 : Tryz.prog.sz 203 = some 1 := by kernel_rfl
theorem zr203 : Tryz.prog.zr 203 = some ((([.nilFunc] : List Value)).toArray) := by kernel_rfl
theorem u204 : Tryz.prog.underlying 204 = some (.func ([47, 3, 3, 150]).toArray ([3, 171]).toArray false) := by kernel_rfl
theorem z204 : Tryz.prog.sz 204 = some 1 := by kernel_rfl
theorem zr204 : Tryz.prog.zr 204 = some ((([.nilFunc] : List Value)).toArray) := by kernel_rfl
theorem u205 : Tryz.prog.underlying 205 = some (.func ([47, 3, 3, 150]).toArray ([4]).toArray false) := by kernel_rfl
theorem z205 : Tryz.prog.sz 205 = some 1 := by kernel_rfl
theorem zr205 : Tryz.prog.zr 205 = some ((([.nilFunc] : List Value)).toArray) := by kernel_rfl
theorem u206 : Tryz.prog.underlying 206 = some (.func ([47, 3, 3, 3, 150]).toArray ([3]).toArray false) := by kernel_rfl
theorem z206 : Tryz.prog.sz 206 = some 1 := by kernel_rfl
theorem zr206 : Tryz.prog.zr 206 = some ((([.nilFunc] : List Value)).toArray) := by kernel_rfl
theorem u207 : Tryz.prog.underlying 207 = some (.func ([47, 3, 3, 3, 150]).toArray ([3, 4]).toArray false) := by kernel_rfl
theorem z207 : Tryz.prog.sz 207 = some 1 := by kernel_rfl
theorem zr207 : Tryz.prog.zr 207 = some ((([.nilFunc] : List Value)).toArray) := by kernel_rfl
theorem u208 : Tryz.prog.underlying 208 = some (.func ([34]).toArray ([74]).toArray false) := by kernel_rfl
theorem z208 : Tryz.prog.sz 208 = some 1 := by kernel_rfl
theorem zr208 : Tryz.prog.zr 208 = some ((([.nilFunc] : List Value)).toArray) := by kernel_rfl
theorem u209 : Tryz.prog.underlying 209 = some (.func ([48, 34]).toArray ([34]).toArray false) := by kernel_rfl
theorem z209 : Tryz.prog.sz 209 = some 1 := by kernel_rfl
theorem zr209 : Tryz.prog.zr 209 = some ((([.nilFunc] : List Value)).toArray) := by kernel_rfl
theorem u210 : Tryz.prog.underlying 210 = some (.func ([48, 3]).toArray ([31, 4]).toArray false) := by kernel_rfl
theorem z210 : Tryz.prog.sz 210 = some 1 := by kernel_rfl
theorem zr210 : Tryz.prog.zr 210 = some ((([.nilFunc] : List Value)).toArray) := by kernel_rfl
theorem u211 : Tryz.prog.underlying 211 = some (.func ([48]).toArray ([48]).toArray false) := by kernel_rfl
theorem z211 : Tryz.prog.sz 211 = some 1 := by kernel_rfl
theorem zr211 : Tryz.prog.zr 211 = some ((([.nilFunc] : List Value)).toArray) := by kernel_rfl
theorem u212 : Tryz.prog.underlying 212 = some (.func ([74, 3, 3, 3]).toArray ([]).toArray false) := by kernel_rfl
theorem z212 : Tryz.prog.sz 212 = some 1 := by kernel_rfl
theorem zr212 : Tryz.prog.zr 212 = some ((([.nilFunc] : List Value)).toArray) := by kernel_rfl
theorem u213 : Tryz.prog.underlying 213 = some (.pointer 140) := by kernel_rfl
theorem z213 : Tryz.prog.sz 213 = some 1 := by kernel_rfl
theorem zr213 : Tryz.prog.zr 213 = some ((([.pointer none] : List Value)).toArray) := by kernel_rfl
theorem u214 : Tryz.prog.underlying 214 = some (.func ([86, 3, 3, 169]).toArray ([]).toArray false) := by kernel_rfl
theorem z214 : Tryz.prog.sz 214 = some 1 := by kernel_rfl
theorem zr214 : Tryz.prog.zr 214 = some ((([.nilFunc] : List Value)).toArray) := by kernel_rfl
theorem u215 : Tryz.prog.underlying 215 = some (.func ([86, 3, 3, 169]).toArray ([3, 171]).toArray false) := by kernel_rfl
theorem z215 : Tryz.prog.sz 215 = some 1 := by kernel_rfl
theorem zr215 : Tryz.prog.zr 215 = some ((([.nilFunc] : List Value)).toArray) := by kernel_rfl
theorem u216 : Tryz.prog.underlying 216 = some (.func ([86, 3, 3, 169]).toArray ([4]).toArray false) := by kernel_rfl
theorem z216 : Tryz.prog.sz 216 = some 1 := by kernel_rfl
theorem zr216 : Tryz.prog.zr 216 = some ((([.nilFunc] : List Value)).toArray) := by kernel_rfl
theorem u217 : Tryz.prog.underlying 217 = some (.func ([86, 3, 3, 3, 169]).toArray ([3]).toArray false) := by kernel_rfl
theorem z217 : Tryz.prog.sz 217 = some 1 := by kernel_rfl
theorem zr217 : Tryz.prog.zr 217 = some ((([.nilFunc] : List Value)).toArray) := by kernel_rfl
theorem u218 : Tryz.prog.underlying 218 = some (.func ([86, 3, 3, 3, 169]).toArray ([3, 4]).toArray false) := by kernel_rfl
theorem z218 : Tryz.prog.sz 218 = some 1 := by kernel_rfl
theorem zr218 : Tryz.prog.zr 218 = some ((([.nilFunc] : List Value)).toArray) := by kernel_rfl
theorem u219 : Tryz.prog.underlying 219 = some (.pointer 195) := by kernel_rfl
theorem z219 : Tryz.prog.sz 219 = some 1 := by kernel_rfl
theorem zr219 : Tryz.prog.zr 219 = some ((([.pointer none] : List Value)).toArray) := by kernel_rfl
theorem u220 : Tryz.prog.underlying 220 = some (.tuple ([3, 3]).toArray) := by kernel_rfl
theorem z220 : Tryz.prog.sz 220 = some 1 := by kernel_rfl
theorem u221 : Tryz.prog.underlying 221 = some (.func ([27, 3, 3, 199, 90]).toArray ([3, 3]).toArray false) := by kernel_rfl
theorem z221 : Tryz.prog.sz 221 = some 1 := by kernel_rfl
theorem zr221 : Tryz.prog.zr 221 = some ((([.nilFunc] : List Value)).toArray) := by kernel_rfl
theorem u222 : Tryz.prog.underlying 222 = some (.func ([180, 179, 3]).toArray ([180]).toArray false) := by kernel_rfl
theorem z222 : Tryz.prog.sz 222 = some 1 := by kernel_rfl
theorem zr222 : Tryz.prog.zr 222 = some ((([.nilFunc] : List Value)).toArray) := by kernel_rfl
theorem u223 : Tryz.prog.underlying 223 = some (.func ([40, 3, 3, 199, 99]).toArray ([3, 3]).toArray false) := by kernel_rfl
theorem z223 : Tryz.prog.sz 223 = some 1 := by kernel_rfl
theorem zr223 : Tryz.prog.zr 223 = some ((([.nilFunc] : List Value)).toArray) := by kernel_rfl
theorem u224 : Tryz.prog.underlying 224 = some (.func ([47, 3, 199, 150]).toArray ([3]).toArray false) := by kernel_rfl
theorem z224 : Tryz.prog.sz 224 = some 1 := by kernel_rfl
theorem zr224 : Tryz.prog.zr 224 = some ((([.nilFunc] : List Value)).toArray) := by kernel_rfl
theorem u225 : Tryz.prog.underlying 225 = some (.func ([47, 3, 3, 3, 199, 150]).toArray ([3]).toArray false) := by kernel_rfl
theorem z225 : Tryz.prog.sz 225 = some 1 := by kernel_rfl
theorem zr225 : Tryz.prog.zr 225 = some ((([.nilFunc] : List Value)).toArray) := by kernel_rfl
theorem u226 : Tryz.prog.underlying 226 = some (.func ([74, 3]).toArray ([4]).toArray false) := by kernel_rfl
theorem z226 : Tryz.prog.sz 226 = some 1 := by kernel_rfl
theorem zr226 : Tryz.prog.zr 226 = some ((([.nilFunc] : List Value)).toArray) := by kernel_rfl
theorem u227 : Tryz.prog.underlying 227 = some (.func ([48, 31]).toArray ([31]).toArray false) := by kernel_rfl
theorem z227 : Tryz.prog.sz 227 = some 1 := by kernel_rfl
theorem zr227 : Tryz.prog.zr 227 = some ((([.nilFunc] : List Value)).toArray) := by kernel_rfl
theorem u228 : Tryz.prog.underlying 228 = some (.func ([74, 3, 3]).toArray ([]).toArray false) := by kernel_rfl
theorem z228 : Tryz.prog.sz 228 = some 1 := by kernel_rfl
theorem zr228 : Tryz.prog.zr 228 = some ((([.nilFunc] : List Value)).toArray) := by kernel_rfl
theorem u229 : Tryz.prog.underlying 229 = some (.func ([74, 3, 3]).toArray ([3, 171]).toArray false) := by kernel_rfl
theorem z229 : Tryz.prog.sz 229 = some 1 := by kernel_rfl
theorem zr229 : Tryz.prog.zr 229 = some ((([.nilFunc] : List Value)).toArray) := by kernel_rfl
theorem u230 : Tryz.prog.underlying 230 = some (.func ([74, 3, 3]).toArray ([4]).toArray false) := by kernel_rfl
theorem z230 : Tryz.prog.sz 230 = some 1 := by kernel_rfl
theorem zr230 : Tryz.prog.zr 230 = some ((([.nilFunc] : List Value)).toArray) := by kernel_rfl
theorem u231 : Tryz.prog.underlying 231 = some (.func ([74, 3, 3, 3]).toArray ([3]).toArray false) := by kernel_rfl
theorem z231 : Tryz.prog.sz 231 = some 1 := by kernel_rfl
theorem zr231 : Tryz.prog.zr 231 = some ((([.nilFunc] : List Value)).toArray) := by kernel_rfl
theorem u232 : Tryz.prog.underlying 232 = some (.func ([74, 3, 3, 3]).toArray ([3, 4]).toArray false) := by kernel_rfl
theorem z232 : Tryz.prog.sz 232 = some 1 := by kernel_rfl
theorem zr232 : Tryz.prog.zr 232 = some ((([.nilFunc] : List Value)).toArray) := by kernel_rfl
theorem u233 : Tryz.prog.underlying 233 = some (.pointer 138) := by kernel_rfl
theorem z233 : Tryz.prog.sz 233 = some 1 := by kernel_rfl
theorem zr233 : Tryz.prog.zr 233 = some ((([.pointer none] : List Value)).toArray) := by kernel_rfl
theorem u234 : Tryz.prog.underlying 234 = some (.func ([235, 21, 21]).toArray ([4]).toArray false) := by kernel_rfl
theorem z234 : Tryz.prog.sz 234 = some 1 := by kernel_rfl
theorem zr234 : Tryz.prog.zr 234 = some ((([.nilFunc] : List Value)).toArray) := by kernel_rfl
theorem u235 : Tryz.prog.underlying 235 = some (.pointer 21) := by kernel_rfl
theorem z235 : Tryz.prog.sz 235 = some 1 := by kernel_rfl
theorem zr235 : Tryz.prog.zr 235 = some ((([.pointer none] : List Value)).toArray) := by kernel_rfl
theorem u236 : Tryz.prog.underlying 236 = some (.func ([237]).toArray ([]).toArray false) := by kernel_rfl
theorem z236 : Tryz.prog.sz 236 = some 1 := by kernel_rfl
theorem zr236 : Tryz.prog.zr 236 = some ((([.nilFunc] : List Value)).toArray) := by kernel_rfl
theorem u237 : Tryz.prog.underlying 237 = some .unsafePointer := by kernel_rfl
theorem z237 : Tryz.prog.sz 237 = some 1 := by kernel_rfl
theorem zr237 : Tryz.prog.zr 237 = some ((([.pointer none] : List Value)).toArray) := by kernel_rfl
theorem u238 : Tryz.prog.underlying 238 = some (.func ([235, 21]).toArray ([21]).toArray false) := by kernel_rfl
theorem z238 : Tryz.prog.sz 238 = some 1 := by kernel_rfl
theorem zr238 : Tryz.prog.zr 238 = some ((([.nilFunc] : List Value)).toArray) := by kernel_rfl
theorem u239 : Tryz.prog.underlying 239 = some (.func ([21]).toArray ([]).toArray false) := by kernel_rfl
theorem z239 : Tryz.prog.sz 239 = some 1 := by kernel_rfl
theorem zr239 : Tryz.prog.zr 239 = some ((([.nilFunc] : List Value)).toArray) := by kernel_rfl
theorem u240 : Tryz.prog.underlying 240 = some (.func ([86, 3, 199, 169]).toArray ([3]).toArray false) := by kernel_rfl
theorem z240 : Tryz.prog.sz 240 = some 1 := by kernel_rfl
theorem zr240 : Tryz.prog.zr 240 = some ((([.nilFunc] : List Value)).toArray) := by kernel_rfl
theorem u241 : Tryz.prog.underlying 241 = some (.func ([86, 3, 3, 3, 199, 169]).toArray ([3]).toArray false) := by kernel_rfl
theorem z241 : Tryz.prog.sz 241 = some 1 := by kernel_rfl
theorem zr241 : Tryz.prog.zr 241 = some ((([.nilFunc] : List Value)).toArray) := by kernel_rfl
theorem u242 : Tryz.prog.underlying 242 = some (.func ([3]).toArray ([9]).toArray false) := by kernel_rfl
theorem z242 : Tryz.prog.sz 242 = some 1 := by kernel_rfl
theorem zr242 : Tryz.prog.zr 242 = some ((([.nilFunc] : List Value)).toArray) := by kernel_rfl
theorem u243 : Tryz.prog.underlying 243 = some (.array 24 5) := by kernel_rfl
theorem z243 : Tryz.prog.sz 243 = some 24 := by kernel_rfl
theorem zr243 : Tryz.prog.zr 243 = some ((u8s (List.replicate 24 0)).toArray) := by kernel_rfl
theorem u244 : Tryz.prog.underlying 244 = some (.func ([180, 179]).toArray ([]).toArray false) := by kernel_rfl
theorem z244 : Tryz.prog.sz 244 = some 1 := by kernel_rfl
theorem zr244 : Tryz.prog.zr 244 = some ((([.nilFunc] : List Value)).toArray) := by kernel_rfl
theorem u245 : Tryz.prog.underlying 245 = some (.tuple ([180, 9]).toArray) := by kernel_rfl
theorem z245 : Tryz.prog.sz 245 = some 1 := by kernel_rfl
theorem u246 : Tryz.prog.underlying 246 = some (.func ([180, 179, 3, 4, 4]).toArray ([180, 9]).toArray false) := by kernel_rfl
theorem z246 : Tryz.prog.sz 246 = some 1 := by kernel_rfl
theorem zr246 : Tryz.prog.zr 246 = some ((([.nilFunc] : List Value)).toArray) := by kernel_rfl
theorem u247 : Tryz.prog.underlying 247 = some (.func ([47, 3, 3, 199, 150]).toArray ([3, 3]).toArray false) := by kernel_rfl
theorem z247 : Tryz.prog.sz 247 = some 1 := by kernel_rfl
theorem zr247 : Tryz.prog.zr 247 = some ((([.nilFunc] : List Value)).toArray) := by kernel_rfl
theorem u248 : Tryz.prog.underlying 248 = some (.func ([5]).toArray ([4]).toArray false) := by kernel_rfl
theorem z248 : Tryz.prog.sz 248 = some 1 := by kernel_rfl
theorem zr248 : Tryz.prog.zr 248 = some ((([.nilFunc] : List Value)).toArray) := by kernel_rfl
theorem u249 : Tryz.prog.underlying 249 = some (.func ([74, 3, 199]).toArray ([3]).toArray false) := by kernel_rfl
theorem z249 : Tryz.prog.sz 249 = some 1 := by kernel_rfl
theorem zr249 : Tryz.prog.zr 249 = some ((([.nilFunc] : List Value)).toArray) := by kernel_rfl
theorem u250 : Tryz.prog.underlying 250 = some (.func ([74, 3, 3, 3, 199]).toArray ([3]).toArray false) := by kernel_rfl
theorem z250 : Tryz.prog.sz 250 = some 1 := by kernel_rfl
theorem zr250 : Tryz.prog.zr 250 = some ((([.nilFunc] : List Value)).toArray) := by kernel_rfl
theorem u251 : Tryz.prog.underlying 251 = some (.func ([9]).toArray ([]).toArray false) := by kernel_rfl
theorem z251 : Tryz.prog.sz 251 = some 1 := by kernel_rfl
theorem zr251 : Tryz.prog.zr 251 = some ((([.nilFunc] : List Value)).toArray) := by kernel_rfl
theorem u252 : Tryz.prog.underlying 252 = some (.func ([]).toArray ([2]).toArray false) := by kernel_rfl
theorem z252 : Tryz.prog.sz 252 = some 1 := by kernel_rfl
theorem zr252 : Tryz.prog.zr 252 = some ((([.nilFunc] : List Value)).toArray) := by kernel_rfl
theorem u253 : Tryz.prog.underlying 253 = some (.func ([254, 4, 3]).toArray ([]).toArray false) := by kernel_rfl
theorem z253 : Tryz.prog.sz 253 = some 1 := by kernel_rfl
theorem zr253 : Tryz.prog.zr 253 = some ((([.nilFunc] : List Value)).toArray) := by kernel_rfl
theorem u254 : Tryz.prog.underlying 254 = some (.pointer 136) := by kernel_rfl
theorem z254 : Tryz.prog.sz 254 = some 1 := by kernel_rfl
theorem zr254 : Tryz.prog.zr 254 = some ((([.pointer none] : List Value)).toArray) := by kernel_rfl
theorem u255 : Tryz.prog.underlying 255 = some (.func ([86, 3, 3, 199, 169]).toArray ([3, 3]).toArray false) := by kernel_rfl
theorem z255 : Tryz.prog.sz 255 = some 1 := by kernel_rfl
theorem zr255 : Tryz.prog.zr 255 = some ((([.nilFunc] : List Value)).toArray) := by kernel_rfl
theorem u256 : Tryz.prog.underlying 256 = some (.func ([4]).toArray ([3]).toArray false) := by kernel_rfl
theorem z256 : Tryz.prog.sz 256 = some 1 := by kernel_rfl
theorem zr256 : Tryz.prog.zr 256 = some ((([.nilFunc] : List Value)).toArray) := by kernel_rfl
theorem u257 : Tryz.prog.underlying 257 = some (.array 20 179) := by kernel_rfl
theorem z257 : Tryz.prog.sz 257 = some 20 := by kernel_rfl
theorem zr257 : Tryz.prog.zr 257 = some ((List.replicate 20 (.int .u64 0)).toArray) := by kernel_rfl
theorem u258 : Tryz.prog.underlying 258 = some (.array 65 5) := by kernel_rfl
theorem z258 : Tryz.prog.sz 258 = some 65 := by kernel_rfl
theorem zr258 : Tryz.prog.zr 258 = some ((u8s (List.replicate 65 0)).toArray) := by kernel_rfl
theorem u259 : Tryz.prog.underlying 259 = some (.func ([74, 3, 3, 199]).toArray ([3, 3]).toArray false) := by kernel_rfl
theorem z259 : Tryz.prog.sz 259 = some 1 := by kernel_rfl
theorem zr259 : Tryz.prog.zr 259 = some ((([.nilFunc] : List Value)).toArray) := by kernel_rfl
theorem u260 : Tryz.prog.underlying 260 = some (.array 32 5) := by kernel_rfl
theorem z260 : Tryz.prog.sz 260 = some 32 := by kernel_rfl
theorem zr260 : Tryz.prog.zr 260 = some ((u8s (List.replicate 32 0)).toArray) := by kernel_rfl
theorem u261 : Tryz.prog.underlying 261 = some (.array 64 5) := by kernel_rfl
theorem z261 : Tryz.prog.sz 261 = some 64 := by kernel_rfl
theorem zr261 : Tryz.prog.zr 261 = some ((u8s (List.replicate 64 0)).toArray) := by kernel_rfl
theorem u262 : Tryz.prog.underlying 262 = some (.func ([]).toArray ([9]).toArray false) := by kernel_rfl
theorem z262 : Tryz.prog.sz 262 = some 1 := by kernel_rfl
theorem zr262 : Tryz.prog.zr 262 = some ((([.nilFunc] : List Value)).toArray) := by kernel_rfl
theorem u263 : Tryz.prog.underlying 263 = some (.struct ([{ name := "_interface", type := 17, offset := 0, embedded := false, tag := "", pkgPath := "runtime", byteOffset := 0 }, { name := "concrete", type := 17, offset := 1, embedded := false, tag := "", pkgPath := "runtime", byteOffset := 8 }, { name := "asserted", type := 17, offset := 2, embedded := false, tag := "", pkgPath := "runtime", byteOffset := 16 }, { name := "missingMethod", type := 9, offset := 3, embedded := false, tag := "", pkgPath := "runtime", byteOffset := 24 }]).toArray) := by kernel_rfl
theorem z263 : Tryz.prog.sz 263 = some 4 := by kernel_rfl
theorem zr263 : Tryz.prog.zr 263 = some ((([.pointer none, .pointer none, .pointer none, .string ⟨#[]⟩] : List Value)).toArray) := by kernel_rfl
theorem u264 : Tryz.prog.underlying 264 = some (.struct ([{ name := "_interface", type := 17, offset := 0, embedded := false, tag := "", pkgPath := "runtime", byteOffset := 0 }, { name := "concrete", type := 17, offset := 1, embedded := false, tag := "", pkgPath := "runtime", byteOffset := 8 }, { name := "asserted", type := 17, offset := 2, embedded := false, tag := "", pkgPath := "runtime", byteOffset := 16 }, { name := "missingMethod", type := 9, offset := 3, embedded := false, tag := "", pkgPath := "runtime", byteOffset := 24 }]).toArray) := by kernel_rfl
theorem z264 : Tryz.prog.sz 264 = some 4 := by kernel_rfl
theorem zr264 : Tryz.prog.zr 264 = some ((([.pointer none, .pointer none, .pointer none, .string ⟨#[]⟩] : List Value)).toArray) := by kernel_rfl
theorem u265 : Tryz.prog.underlying 265 = some (.array 0 16) := by kernel_rfl
theorem z265 : Tryz.prog.sz 265 = some 0 := by kernel_rfl
theorem zr265 : Tryz.prog.zr 265 = some ((([] : List Value)).toArray) := by kernel_rfl
theorem u266 : Tryz.prog.underlying 266 = some (.struct ([{ name := "_", type := 265, offset := 0, embedded := false, tag := "", pkgPath := "runtime", byteOffset := 0 }]).toArray) := by kernel_rfl
theorem z266 : Tryz.prog.sz 266 = some 0 := by kernel_rfl
theorem zr266 : Tryz.prog.zr 266 = some ((([] : List Value)).toArray) := by kernel_rfl
theorem u267 : Tryz.prog.underlying 267 = some (.struct ([{ name := "_", type := 265, offset := 0, embedded := false, tag := "", pkgPath := "runtime", byteOffset := 0 }]).toArray) := by kernel_rfl
theorem z267 : Tryz.prog.sz 267 = some 0 := by kernel_rfl
theorem zr267 : Tryz.prog.zr 267 = some ((([] : List Value)).toArray) := by kernel_rfl
theorem u268 : Tryz.prog.underlying 268 = some (.int .u8) := by kernel_rfl
theorem z268 : Tryz.prog.sz 268 = some 1 := by kernel_rfl
theorem zr268 : Tryz.prog.zr 268 = some ((([.int .u8 0] : List Value)).toArray) := by kernel_rfl
theorem u269 : Tryz.prog.underlying 269 = some (.int .u8) := by kernel_rfl
theorem z269 : Tryz.prog.sz 269 = some 1 := by kernel_rfl
theorem zr269 : Tryz.prog.zr 269 = some ((([.int .u8 0] : List Value)).toArray) := by kernel_rfl
theorem u270 : Tryz.prog.underlying 270 = some (.func ([237, 237]).toArray ([4]).toArray false) := by kernel_rfl
theorem z270 : Tryz.prog.sz 270 = some 1 := by kernel_rfl
theorem zr270 : Tryz.prog.zr 270 = some ((([.nilFunc] : List Value)).toArray) := by kernel_rfl
theorem u271 : Tryz.prog.underlying 271 = some (.pointer 5) := by kernel_rfl
theorem z271 : Tryz.prog.sz 271 = some 1 := by kernel_rfl
theorem zr271 : Tryz.prog.zr 271 = some ((([.pointer none] : List Value)).toArray) := by kernel_rfl
theorem u272 : Tryz.prog.underlying 272 = some (.int .i32) := by kernel_rfl
theorem z272 : Tryz.prog.sz 272 = some 1 := by kernel_rfl
theorem zr272 : Tryz.prog.zr 272 = some ((([.int .i32 0] : List Value)).toArray) := by kernel_rfl
theorem u273 : Tryz.prog.underlying 273 = some (.int .i32) := by kernel_rfl
theorem z273 : Tryz.prog.sz 273 = some 1 := by kernel_rfl
theorem zr273 : Tryz.prog.zr 273 = some ((([.int .i32 0] : List Value)).toArray) := by kernel_rfl
theorem u274 : Tryz.prog.underlying 274 = some (.struct ([{ name := "Size_", type := 12, offset := 0, embedded := false, tag := "", pkgPath := "", byteOffset := 0 }, { name := "PtrBytes", type := 12, offset := 1, embedded := false, tag := "", pkgPath := "", byteOffset := 8 }, { name := "Hash", type := 136, offset := 2, embedded := false, tag := "", pkgPath := "", byteOffset := 16 }, { name := "TFlag", type := 268, offset := 3, embedded := false, tag := "", pkgPath := "", byteOffset := 20 }, { name := "Align_", type := 5, offset := 4, embedded := false, tag := "", pkgPath := "", byteOffset := 21 }, { name := "FieldAlign_", type := 5, offset := 5, embedded := false, tag := "", pkgPath := "", byteOffset := 22 }, { name := "Kind_", type := 269, offset := 6, embedded := false, tag := "", pkgPath := "", byteOffset := 23 }, { name := "Equal", type := 270, offset := 7, embedded := false, tag := "", pkgPath := "", byteOffset := 24 }, { name := "GCData", type := 271, offset := 8, embedded := false, tag := "", pkgPath := "", byteOffset := 32 }, { name := "Str", type := 272, offset := 9, embedded := false, tag := "", pkgPath := "", byteOffset := 40 }, { name := "PtrToThis", type := 273, offset := 10, embedded := false, tag := "", pkgPath := "", byteOffset := 44 }]).toArray) := by kernel_rfl
theorem z274 : Tryz.prog.sz 274 = some 11 := by kernel_rfl
theorem zr274 : Tryz.prog.zr 274 = some ((([.int .u64 0, .int .u64 0, .int .u32 0] : List Value) ++ u8s (List.replicate 4 0) ++ ([.nilFunc, .pointer none, .int .i32 0, .int .i32 0] : List Value)).toArray) := by kernel_rfl
theorem u275 : Tryz.prog.underlying 275 = some (.struct ([{ name := "Size_", type := 12, offset := 0, embedded := false, tag := "", pkgPath := "", byteOffset := 0 }, { name := "PtrBytes", type := 12, offset := 1, embedded := false, tag := "", pkgPath := "", byteOffset := 8 }, { name := "Hash", type := 136, offset := 2, embedded := false, tag := "", pkgPath := "", byteOffset := 16 }, { name := "TFlag", type := 268, offset := 3, embedded := false, tag := "", pkgPath := "", byteOffset := 20 }, { name := "Align_", type := 5, offset := 4, embedded := false, tag := "", pkgPath := "", byteOffset := 21 }, { name := "FieldAlign_", type := 5, offset := 5, embedded := false, tag := "", pkgPath := "", byteOffset := 22 }, { name := "Kind_", type := 269, offset := 6, embedded := false, tag := "", pkgPath := "", byteOffset := 23 }, { name := "Equal", type := 270, offset := 7, embedded := false, tag := "", pkgPath := "", byteOffset := 24 }, { name := "GCData", type := 271, offset := 8, embedded := false, tag := "", pkgPath := "", byteOffset := 32 }, { name := "Str", type := 272, offset := 9, embedded := false, tag := "", pkgPath := "", byteOffset := 40 }, { name := "PtrToThis", type := 273, offset := 10, embedded := false, tag := "", pkgPath := "", byteOffset := 44 }]).toArray) := by kernel_rfl
theorem z275 : Tryz.prog.sz 275 = some 11 := by kernel_rfl
theorem zr275 : Tryz.prog.zr 275 = some ((([.int .u64 0, .int .u64 0, .int .u32 0] : List Value) ++ u8s (List.replicate 4 0) ++ ([.nilFunc, .pointer none, .int .i32 0, .int .i32 0] : List Value)).toArray) := by kernel_rfl
end Go.Proofs.YtgiiifadbnpfkaaGreatDoor.T
