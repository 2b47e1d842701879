/- What the types of the loaded program are. Printed by mktypes.py. -/
import Derived.Test.YtijplknkpkmblaaGreatDoorProg
import Derived.Test.YtijplknkpkmblaaGreatDoorHxTurn
namespace Go.Proofs.YtijplknkpkmblaaGreatDoor.T
open Go Go.Hw
set_option maxRecDepth 100000
theorem u0 : Tryz.prog.underlying 0 = some (.tuple ([]).toArray) := by kernel_rfl
theorem z0 : Tryz.prog.sz 0 = some 1 := by kernel_rfl
theorem u1 : Tryz.prog.underlying 1 = some (.func ([]).toArray ([]).toArray false) := by kernel_rfl
theorem z1 : Tryz.prog.sz 1 = some 1 := by kernel_rfl
theorem zr1 : Tryz.prog.zr 1 = some ((([.nilFunc] : List Value)).toArray) := by kernel_rfl
theorem u2 : Tryz.prog.underlying 2 = some (.int .i64) := by kernel_rfl
theorem z2 : Tryz.prog.sz 2 = some 1 := by kernel_rfl
theorem zr2 : Tryz.prog.zr 2 = some ((([.int .i64 0] : List Value)).toArray) := by kernel_rfl
theorem u3 : Tryz.prog.underlying 3 = some (.int .i64) := by kernel_rfl
theorem z3 : Tryz.prog.sz 3 = some 1 := by kernel_rfl
theorem zr3 : Tryz.prog.zr 3 = some ((([.int .i64 0] : List Value)).toArray) := by kernel_rfl
theorem u4 : Tryz.prog.underlying 4 = some .bool := by kernel_rfl
theorem z4 : Tryz.prog.sz 4 = some 1 := by kernel_rfl
theorem zr4 : Tryz.prog.zr 4 = some ((([.bool false] : List Value)).toArray) := by kernel_rfl
theorem u5 : Tryz.prog.underlying 5 = some (.int .u8) := by kernel_rfl
theorem z5 : Tryz.prog.sz 5 = some 1 := by kernel_rfl
theorem zr5 : Tryz.prog.zr 5 = some ((([.int .u8 0] : List Value)).toArray) := by kernel_rfl
theorem u6 : Tryz.prog.underlying 6 = some (.int .u8) := by kernel_rfl
theorem z6 : Tryz.prog.sz 6 = some 1 := by kernel_rfl
theorem zr6 : Tryz.prog.zr 6 = some ((([.int .u8 0] : List Value)).toArray) := by kernel_rfl
theorem u7 : Tryz.prog.underlying 7 = some (.struct ([{ name := "x", type := 2, offset := 0, embedded := false, tag := "", pkgPath := "runtime", byteOffset := 0 }, { name := "y", type := 3, offset := 1, embedded := false, tag := "", pkgPath := "runtime", byteOffset := 8 }, { name := "signed", type := 4, offset := 2, embedded := false, tag := "", pkgPath := "runtime", byteOffset := 16 }, { name := "code", type := 6, offset := 3, embedded := false, tag := "", pkgPath := "runtime", byteOffset := 17 }]).toArray) := by kernel_rfl
theorem z7 : Tryz.prog.sz 7 = some 4 := by kernel_rfl
theorem zr7 : Tryz.prog.zr 7 = some ((([.int .i64 0, .int .i64 0, .bool false, .int .u8 0] : List Value)).toArray) := by kernel_rfl
theorem u8 : Tryz.prog.underlying 8 = some (.struct ([{ name := "x", type := 2, offset := 0, embedded := false, tag := "", pkgPath := "runtime", byteOffset := 0 }, { name := "y", type := 3, offset := 1, embedded := false, tag := "", pkgPath := "runtime", byteOffset := 8 }, { name := "signed", type := 4, offset := 2, embedded := false, tag := "", pkgPath := "runtime", byteOffset := 16 }, { name := "code", type := 6, offset := 3, embedded := false, tag := "", pkgPath := "runtime", byteOffset := 17 }]).toArray) := by kernel_rfl
theorem z8 : Tryz.prog.sz 8 = some 4 := by kernel_rfl
theorem zr8 : Tryz.prog.zr 8 = some ((([.int .i64 0, .int .i64 0, .bool false, .int .u8 0] : List Value)).toArray) := by kernel_rfl
theorem u9 : Tryz.prog.underlying 9 = some .string := by kernel_rfl
theorem z9 : Tryz.prog.sz 9 = some 1 := by kernel_rfl
theorem zr9 : Tryz.prog.zr 9 = some ((([.string ⟨#[]⟩] : List Value)).toArray) := by kernel_rfl
theorem u10 : Tryz.prog.underlying 10 = some .string := by kernel_rfl
theorem z10 : Tryz.prog.sz 10 = some 1 := by kernel_rfl
theorem zr10 : Tryz.prog.zr 10 = some ((([.string ⟨#[]⟩] : List Value)).toArray) := by kernel_rfl
theorem u11 : Tryz.prog.underlying 11 = some .string := by kernel_rfl
theorem z11 : Tryz.prog.sz 11 = some 1 := by kernel_rfl
theorem zr11 : Tryz.prog.zr 11 = some ((([.string ⟨#[]⟩] : List Value)).toArray) := by kernel_rfl
theorem u12 : Tryz.prog.underlying 12 = some (.int .u64) := by kernel_rfl
theorem z12 : Tryz.prog.sz 12 = some 1 := by kernel_rfl
theorem zr12 : Tryz.prog.zr 12 = some ((([.int .u64 0] : List Value)).toArray) := by kernel_rfl
theorem u13 : Tryz.prog.underlying 13 = some (.struct ([{ name := "msg", type := 9, offset := 0, embedded := false, tag := "", pkgPath := "runtime", byteOffset := 0 }, { name := "addr", type := 12, offset := 1, embedded := false, tag := "", pkgPath := "runtime", byteOffset := 16 }]).toArray) := by kernel_rfl
theorem z13 : Tryz.prog.sz 13 = some 2 := by kernel_rfl
theorem zr13 : Tryz.prog.zr 13 = some ((([.string ⟨#[]⟩, .int .u64 0] : List Value)).toArray) := by kernel_rfl
theorem u14 : Tryz.prog.underlying 14 = some (.struct ([{ name := "msg", type := 9, offset := 0, embedded := false, tag := "", pkgPath := "runtime", byteOffset := 0 }, { name := "addr", type := 12, offset := 1, embedded := false, tag := "", pkgPath := "runtime", byteOffset := 16 }]).toArray) := by kernel_rfl
theorem z14 : Tryz.prog.sz 14 = some 2 := by kernel_rfl
theorem zr14 : Tryz.prog.zr 14 = some ((([.string ⟨#[]⟩, .int .u64 0] : List Value)).toArray) := by kernel_rfl
theorem u15 : Tryz.prog.underlying 15 = some (.pointer 153) := by kernel_rfl
theorem z15 : Tryz.prog.sz 15 = some 1 := by kernel_rfl
theorem zr15 : Tryz.prog.zr 15 = some ((([.pointer none] : List Value)).toArray) := by kernel_rfl
theorem u16 : Tryz.prog.underlying 16 = some (.pointer 156) := by kernel_rfl
theorem z16 : Tryz.prog.sz 16 = some 1 := by kernel_rfl
theorem zr16 : Tryz.prog.zr 16 = some ((([.pointer none] : List Value)).toArray) := by kernel_rfl
theorem u17 : Tryz.prog.underlying 17 = some (.pointer 164) := by kernel_rfl
theorem z17 : Tryz.prog.sz 17 = some 1 := by kernel_rfl
theorem zr17 : Tryz.prog.zr 17 = some ((([.pointer none] : List Value)).toArray) := by kernel_rfl
theorem u18 : Tryz.prog.underlying 18 = some (.struct ([{ name := "typ", type := 17, offset := 0, embedded := false, tag := "", pkgPath := "internal/runtime/maps", byteOffset := 0 }]).toArray) := by kernel_rfl
theorem z18 : Tryz.prog.sz 18 = some 1 := by kernel_rfl
theorem zr18 : Tryz.prog.zr 18 = some ((([.pointer none] : List Value)).toArray) := by kernel_rfl
theorem u19 : Tryz.prog.underlying 19 = some (.struct ([{ name := "typ", type := 17, offset := 0, embedded := false, tag := "", pkgPath := "internal/runtime/maps", byteOffset := 0 }]).toArray) := by kernel_rfl
theorem z19 : Tryz.prog.sz 19 = some 1 := by kernel_rfl
theorem zr19 : Tryz.prog.zr 19 = some ((([.pointer none] : List Value)).toArray) := by kernel_rfl
theorem u20 : Tryz.prog.underlying 20 = some (.interface ([]).toArray) := by kernel_rfl
theorem z20 : Tryz.prog.sz 20 = some 1 := by kernel_rfl
theorem zr20 : Tryz.prog.zr 20 = some ((([.nilIface] : List Value)).toArray) := by kernel_rfl
theorem u21 : Tryz.prog.underlying 21 = some (.int .i32) := by kernel_rfl
theorem z21 : Tryz.prog.sz 21 = some 1 := by kernel_rfl
theorem zr21 : Tryz.prog.zr 21 = some ((([.int .i32 0] : List Value)).toArray) := by kernel_rfl
theorem u22 : Tryz.prog.underlying 22 = some (.slice 34) := by kernel_rfl
theorem z22 : Tryz.prog.sz 22 = some 1 := by kernel_rfl
theorem zr22 : Tryz.prog.zr 22 = some ((([.slice none 0 0] : List Value)).toArray) := by kernel_rfl
theorem u23 : Tryz.prog.underlying 23 = some (.func ([3, 3, 22, 3, 3]).toArray ([4]).toArray false) := by kernel_rfl
theorem z23 : Tryz.prog.sz 23 = some 1 := by kernel_rfl
theorem zr23 : Tryz.prog.zr 23 = some ((([.nilFunc] : List Value)).toArray) := by kernel_rfl
theorem u24 : Tryz.prog.underlying 24 = some (.func ([3, 3, 22]).toArray ([4]).toArray false) := by kernel_rfl
theorem z24 : Tryz.prog.sz 24 = some 1 := by kernel_rfl
theorem zr24 : Tryz.prog.zr 24 = some ((([.nilFunc] : List Value)).toArray) := by kernel_rfl
theorem u25 : Tryz.prog.underlying 25 = some (.pointer 66) := by kernel_rfl
theorem z25 : Tryz.prog.sz 25 = some 1 := by kernel_rfl
theorem zr25 : Tryz.prog.zr 25 = some ((([.pointer none] : List Value)).toArray) := by kernel_rfl
theorem u26 : Tryz.prog.underlying 26 = some (.pointer 68) := by kernel_rfl
theorem z26 : Tryz.prog.sz 26 = some 1 := by kernel_rfl
theorem zr26 : Tryz.prog.zr 26 = some ((([.pointer none] : List Value)).toArray) := by kernel_rfl
theorem u27 : Tryz.prog.underlying 27 = some (.struct ([{ name := "P", type := 25, offset := 0, embedded := false, tag := "", pkgPath := "", byteOffset := 0 }, { name := "R", type := 26, offset := 1, embedded := false, tag := "", pkgPath := "", byteOffset := 8 }]).toArray) := by kernel_rfl
theorem z27 : Tryz.prog.sz 27 = some 2 := by kernel_rfl
theorem zr27 : Tryz.prog.zr 27 = some ((([.pointer none, .pointer none] : List Value)).toArray) := by kernel_rfl
theorem u28 : Tryz.prog.underlying 28 = some (.struct ([{ name := "P", type := 25, offset := 0, embedded := false, tag := "", pkgPath := "", byteOffset := 0 }, { name := "R", type := 26, offset := 1, embedded := false, tag := "", pkgPath := "", byteOffset := 8 }]).toArray) := by kernel_rfl
theorem z28 : Tryz.prog.sz 28 = some 2 := by kernel_rfl
theorem zr28 : Tryz.prog.zr 28 = some ((([.pointer none, .pointer none] : List Value)).toArray) := by kernel_rfl
theorem u29 : Tryz.prog.underlying 29 = some (.tuple ([28, 4]).toArray) := by kernel_rfl
theorem z29 : Tryz.prog.sz 29 = some 1 := by kernel_rfl
theorem u30 : Tryz.prog.underlying 30 = some (.func ([3]).toArray ([28, 4]).toArray false) := by kernel_rfl
theorem z30 : Tryz.prog.sz 30 = some 1 := by kernel_rfl
theorem zr30 : Tryz.prog.zr 30 = some ((([.nilFunc] : List Value)).toArray) := by kernel_rfl
theorem u31 : Tryz.prog.underlying 31 = some (.func ([]).toArray ([4]).toArray false) := by kernel_rfl
theorem z31 : Tryz.prog.sz 31 = some 1 := by kernel_rfl
theorem zr31 : Tryz.prog.zr 31 = some ((([.nilFunc] : List Value)).toArray) := by kernel_rfl
theorem u32 : Tryz.prog.underlying 32 = some (.slice 3) := by kernel_rfl
theorem z32 : Tryz.prog.sz 32 = some 1 := by kernel_rfl
theorem zr32 : Tryz.prog.zr 32 = some ((([.slice none 0 0] : List Value)).toArray) := by kernel_rfl
theorem u33 : Tryz.prog.underlying 33 = some (.struct ([{ name := "Kind", type := 3, offset := 0, embedded := false, tag := "", pkgPath := "", byteOffset := 0 }, { name := "Parts", type := 3, offset := 1, embedded := false, tag := "", pkgPath := "", byteOffset := 8 }, { name := "Stop", type := 3, offset := 2, embedded := false, tag := "", pkgPath := "", byteOffset := 16 }, { name := "Two", type := 4, offset := 3, embedded := false, tag := "", pkgPath := "", byteOffset := 24 }, { name := "Row", type := 32, offset := 4, embedded := false, tag := "", pkgPath := "", byteOffset := 32 }, { name := "Cols", type := 32, offset := 5, embedded := false, tag := "", pkgPath := "", byteOffset := 56 }, { name := "Key", type := 32, offset := 6, embedded := false, tag := "", pkgPath := "", byteOffset := 80 }]).toArray) := by kernel_rfl
theorem z33 : Tryz.prog.sz 33 = some 7 := by kernel_rfl
theorem zr33 : Tryz.prog.zr 33 = some ((([.int .i64 0, .int .i64 0, .int .i64 0, .bool false, .slice none 0 0, .slice none 0 0, .slice none 0 0] : List Value)).toArray) := by kernel_rfl
theorem u34 : Tryz.prog.underlying 34 = some (.struct ([{ name := "Kind", type := 3, offset := 0, embedded := false, tag := "", pkgPath := "", byteOffset := 0 }, { name := "Parts", type := 3, offset := 1, embedded := false, tag := "", pkgPath := "", byteOffset := 8 }, { name := "Stop", type := 3, offset := 2, embedded := false, tag := "", pkgPath := "", byteOffset := 16 }, { name := "Two", type := 4, offset := 3, embedded := false, tag := "", pkgPath := "", byteOffset := 24 }, { name := "Row", type := 32, offset := 4, embedded := false, tag := "", pkgPath := "", byteOffset := 32 }, { name := "Cols", type := 32, offset := 5, embedded := false, tag := "", pkgPath := "", byteOffset := 56 }, { name := "Key", type := 32, offset := 6, embedded := false, tag := "", pkgPath := "", byteOffset := 80 }]).toArray) := by kernel_rfl
theorem z34 : Tryz.prog.sz 34 = some 7 := by kernel_rfl
theorem zr34 : Tryz.prog.zr 34 = some ((([.int .i64 0, .int .i64 0, .int .i64 0, .bool false, .slice none 0 0, .slice none 0 0, .slice none 0 0] : List Value)).toArray) := by kernel_rfl
theorem u35 : Tryz.prog.underlying 35 = some (.func ([34]).toArray ([4]).toArray false) := by kernel_rfl
theorem z35 : Tryz.prog.sz 35 = some 1 := by kernel_rfl
theorem zr35 : Tryz.prog.zr 35 = some ((([.nilFunc] : List Value)).toArray) := by kernel_rfl
theorem u36 : Tryz.prog.underlying 36 = some (.int .i64) := by kernel_rfl
theorem z36 : Tryz.prog.sz 36 = some 1 := by kernel_rfl
theorem zr36 : Tryz.prog.zr 36 = some ((([.int .i64 0] : List Value)).toArray) := by kernel_rfl
theorem u37 : Tryz.prog.underlying 37 = some (.tuple ([25, 36]).toArray) := by kernel_rfl
theorem z37 : Tryz.prog.sz 37 = some 1 := by kernel_rfl
theorem u38 : Tryz.prog.underlying 38 = some (.func ([3]).toArray ([25, 36]).toArray false) := by kernel_rfl
theorem z38 : Tryz.prog.sz 38 = some 1 := by kernel_rfl
theorem zr38 : Tryz.prog.zr 38 = some ((([.nilFunc] : List Value)).toArray) := by kernel_rfl
theorem u39 : Tryz.prog.underlying 39 = some (.tuple ([26, 36]).toArray) := by kernel_rfl
theorem z39 : Tryz.prog.sz 39 = some 1 := by kernel_rfl
theorem u40 : Tryz.prog.underlying 40 = some (.func ([3]).toArray ([26, 36]).toArray false) := by kernel_rfl
theorem z40 : Tryz.prog.sz 40 = some 1 := by kernel_rfl
theorem zr40 : Tryz.prog.zr 40 = some ((([.nilFunc] : List Value)).toArray) := by kernel_rfl
theorem u41 : Tryz.prog.underlying 41 = some (.func ([71]).toArray ([]).toArray false) := by kernel_rfl
theorem z41 : Tryz.prog.sz 41 = some 1 := by kernel_rfl
theorem zr41 : Tryz.prog.zr 41 = some ((([.nilFunc] : List Value)).toArray) := by kernel_rfl
theorem u42 : Tryz.prog.underlying 42 = some (.func ([71]).toArray ([]).toArray false) := by kernel_rfl
theorem z42 : Tryz.prog.sz 42 = some 1 := by kernel_rfl
theorem zr42 : Tryz.prog.zr 42 = some ((([.nilFunc] : List Value)).toArray) := by kernel_rfl
theorem u43 : Tryz.prog.underlying 43 = some (.func ([3, 32, 32]).toArray ([42]).toArray false) := by kernel_rfl
theorem z43 : Tryz.prog.sz 43 = some 1 := by kernel_rfl
theorem zr43 : Tryz.prog.zr 43 = some ((([.nilFunc] : List Value)).toArray) := by kernel_rfl
theorem u44 : Tryz.prog.underlying 44 = some (.tuple ([4, 36]).toArray) := by kernel_rfl
theorem z44 : Tryz.prog.sz 44 = some 1 := by kernel_rfl
theorem u45 : Tryz.prog.underlying 45 = some (.func ([32]).toArray ([4, 36]).toArray false) := by kernel_rfl
theorem z45 : Tryz.prog.sz 45 = some 1 := by kernel_rfl
theorem zr45 : Tryz.prog.zr 45 = some ((([.nilFunc] : List Value)).toArray) := by kernel_rfl
theorem u46 : Tryz.prog.underlying 46 = some (.func ([]).toArray ([3]).toArray false) := by kernel_rfl
theorem z46 : Tryz.prog.sz 46 = some 1 := by kernel_rfl
theorem zr46 : Tryz.prog.zr 46 = some ((([.nilFunc] : List Value)).toArray) := by kernel_rfl
theorem u47 : Tryz.prog.underlying 47 = some (.func ([32]).toArray ([3]).toArray false) := by kernel_rfl
theorem z47 : Tryz.prog.sz 47 = some 1 := by kernel_rfl
theorem zr47 : Tryz.prog.zr 47 = some ((([.nilFunc] : List Value)).toArray) := by kernel_rfl
theorem u48 : Tryz.prog.underlying 48 = some (.slice 32) := by kernel_rfl
theorem z48 : Tryz.prog.sz 48 = some 1 := by kernel_rfl
theorem zr48 : Tryz.prog.zr 48 = some ((([.slice none 0 0] : List Value)).toArray) := by kernel_rfl
theorem u49 : Tryz.prog.underlying 49 = some (.func ([3]).toArray ([48]).toArray false) := by kernel_rfl
theorem z49 : Tryz.prog.sz 49 = some 1 := by kernel_rfl
theorem zr49 : Tryz.prog.zr 49 = some ((([.nilFunc] : List Value)).toArray) := by kernel_rfl
theorem u50 : Tryz.prog.underlying 50 = some (.func ([32]).toArray ([32]).toArray false) := by kernel_rfl
theorem z50 : Tryz.prog.sz 50 = some 1 := by kernel_rfl
theorem zr50 : Tryz.prog.zr 50 = some ((([.nilFunc] : List Value)).toArray) := by kernel_rfl
theorem u51 : Tryz.prog.underlying 51 = some (.func ([3]).toArray ([3]).toArray false) := by kernel_rfl
theorem z51 : Tryz.prog.sz 51 = some 1 := by kernel_rfl
theorem zr51 : Tryz.prog.zr 51 = some ((([.nilFunc] : List Value)).toArray) := by kernel_rfl
theorem u52 : Tryz.prog.underlying 52 = some (.func ([48, 48]).toArray ([4]).toArray false) := by kernel_rfl
theorem z52 : Tryz.prog.sz 52 = some 1 := by kernel_rfl
theorem zr52 : Tryz.prog.zr 52 = some ((([.nilFunc] : List Value)).toArray) := by kernel_rfl
theorem u53 : Tryz.prog.underlying 53 = some (.func ([32, 32]).toArray ([4]).toArray false) := by kernel_rfl
theorem z53 : Tryz.prog.sz 53 = some 1 := by kernel_rfl
theorem zr53 : Tryz.prog.zr 53 = some ((([.nilFunc] : List Value)).toArray) := by kernel_rfl
theorem u54 : Tryz.prog.underlying 54 = some (.map 9 78) := by kernel_rfl
theorem z54 : Tryz.prog.sz 54 = some 1 := by kernel_rfl
theorem zr54 : Tryz.prog.zr 54 = some ((([.map none] : List Value)).toArray) := by kernel_rfl
theorem u55 : Tryz.prog.underlying 55 = some (.map 9 75) := by kernel_rfl
theorem z55 : Tryz.prog.sz 55 = some 1 := by kernel_rfl
theorem zr55 : Tryz.prog.zr 55 = some ((([.map none] : List Value)).toArray) := by kernel_rfl
theorem u56 : Tryz.prog.underlying 56 = some (.slice 78) := by kernel_rfl
theorem z56 : Tryz.prog.sz 56 = some 1 := by kernel_rfl
theorem zr56 : Tryz.prog.zr 56 = some ((([.slice none 0 0] : List Value)).toArray) := by kernel_rfl
theorem u57 : Tryz.prog.underlying 57 = some (.array 8 3) := by kernel_rfl
theorem z57 : Tryz.prog.sz 57 = some 8 := by kernel_rfl
theorem zr57 : Tryz.prog.zr 57 = some ((([.int .i64 0, .int .i64 0, .int .i64 0, .int .i64 0, .int .i64 0, .int .i64 0, .int .i64 0, .int .i64 0] : List Value)).toArray) := by kernel_rfl
theorem u58 : Tryz.prog.underlying 58 = some (.struct ([]).toArray) := by kernel_rfl
theorem z58 : Tryz.prog.sz 58 = some 0 := by kernel_rfl
theorem zr58 : Tryz.prog.zr 58 = some ((([] : List Value)).toArray) := by kernel_rfl
theorem u59 : Tryz.prog.underlying 59 = some (.struct ([]).toArray) := by kernel_rfl
theorem z59 : Tryz.prog.sz 59 = some 0 := by kernel_rfl
theorem zr59 : Tryz.prog.zr 59 = some ((([] : List Value)).toArray) := by kernel_rfl
theorem u60 : Tryz.prog.underlying 60 = some (.int .u32) := by kernel_rfl
theorem z60 : Tryz.prog.sz 60 = some 1 := by kernel_rfl
theorem zr60 : Tryz.prog.zr 60 = some ((([.int .u32 0] : List Value)).toArray) := by kernel_rfl
theorem u61 : Tryz.prog.underlying 61 = some (.struct ([{ name := "state", type := 21, offset := 0, embedded := false, tag := "", pkgPath := "internal/sync", byteOffset := 0 }, { name := "sema", type := 60, offset := 1, embedded := false, tag := "", pkgPath := "internal/sync", byteOffset := 4 }]).toArray) := by kernel_rfl
theorem z61 : Tryz.prog.sz 61 = some 2 := by kernel_rfl
theorem zr61 : Tryz.prog.zr 61 = some ((([.int .i32 0, .int .u32 0] : List Value)).toArray) := by kernel_rfl
theorem u62 : Tryz.prog.underlying 62 = some (.struct ([{ name := "state", type := 21, offset := 0, embedded := false, tag := "", pkgPath := "internal/sync", byteOffset := 0 }, { name := "sema", type := 60, offset := 1, embedded := false, tag := "", pkgPath := "internal/sync", byteOffset := 4 }]).toArray) := by kernel_rfl
theorem z62 : Tryz.prog.sz 62 = some 2 := by kernel_rfl
theorem zr62 : Tryz.prog.zr 62 = some ((([.int .i32 0, .int .u32 0] : List Value)).toArray) := by kernel_rfl
theorem u63 : Tryz.prog.underlying 63 = some (.struct ([{ name := "_", type := 59, offset := 0, embedded := false, tag := "", pkgPath := "sync", byteOffset := 0 }, { name := "mu", type := 62, offset := 0, embedded := false, tag := "", pkgPath := "sync", byteOffset := 0 }]).toArray) := by kernel_rfl
theorem z63 : Tryz.prog.sz 63 = some 2 := by kernel_rfl
theorem zr63 : Tryz.prog.zr 63 = some ((([.int .i32 0, .int .u32 0] : List Value)).toArray) := by kernel_rfl
theorem u64 : Tryz.prog.underlying 64 = some (.struct ([{ name := "_", type := 59, offset := 0, embedded := false, tag := "", pkgPath := "sync", byteOffset := 0 }, { name := "mu", type := 62, offset := 0, embedded := false, tag := "", pkgPath := "sync", byteOffset := 0 }]).toArray) := by kernel_rfl
theorem z64 : Tryz.prog.sz 64 = some 2 := by kernel_rfl
theorem zr64 : Tryz.prog.zr 64 = some ((([.int .i32 0, .int .u32 0] : List Value)).toArray) := by kernel_rfl
theorem u65 : Tryz.prog.underlying 65 = some (.struct ([{ name := "width", type := 3, offset := 0, embedded := false, tag := "", pkgPath := "hearsay/rel", byteOffset := 0 }, { name := "rows", type := 54, offset := 1, embedded := false, tag := "", pkgPath := "hearsay/rel", byteOffset := 8 }, { name := "fresh", type := 56, offset := 2, embedded := false, tag := "", pkgPath := "hearsay/rel", byteOffset := 16 }, { name := "next", type := 56, offset := 3, embedded := false, tag := "", pkgPath := "hearsay/rel", byteOffset := 40 }, { name := "count", type := 57, offset := 4, embedded := false, tag := "", pkgPath := "hearsay/rel", byteOffset := 64 }, { name := "indexes", type := 55, offset := 12, embedded := false, tag := "", pkgPath := "hearsay/rel", byteOffset := 128 }, { name := "making", type := 64, offset := 13, embedded := false, tag := "", pkgPath := "hearsay/rel", byteOffset := 136 }]).toArray) := by kernel_rfl
theorem z65 : Tryz.prog.sz 65 = some 15 := by kernel_rfl
theorem zr65 : Tryz.prog.zr 65 = some ((([.int .i64 0, .map none, .slice none 0 0, .slice none 0 0, .int .i64 0, .int .i64 0, .int .i64 0, .int .i64 0, .int .i64 0, .int .i64 0, .int .i64 0, .int .i64 0, .map none, .int .i32 0, .int .u32 0] : List Value)).toArray) := by kernel_rfl
theorem u66 : Tryz.prog.underlying 66 = some (.struct ([{ name := "width", type := 3, offset := 0, embedded := false, tag := "", pkgPath := "hearsay/rel", byteOffset := 0 }, { name := "rows", type := 54, offset := 1, embedded := false, tag := "", pkgPath := "hearsay/rel", byteOffset := 8 }, { name := "fresh", type := 56, offset := 2, embedded := false, tag := "", pkgPath := "hearsay/rel", byteOffset := 16 }, { name := "next", type := 56, offset := 3, embedded := false, tag := "", pkgPath := "hearsay/rel", byteOffset := 40 }, { name := "count", type := 57, offset := 4, embedded := false, tag := "", pkgPath := "hearsay/rel", byteOffset := 64 }, { name := "indexes", type := 55, offset := 12, embedded := false, tag := "", pkgPath := "hearsay/rel", byteOffset := 128 }, { name := "making", type := 64, offset := 13, embedded := false, tag := "", pkgPath := "hearsay/rel", byteOffset := 136 }]).toArray) := by kernel_rfl
theorem z66 : Tryz.prog.sz 66 = some 15 := by kernel_rfl
theorem zr66 : Tryz.prog.zr 66 = some ((([.int .i64 0, .map none, .slice none 0 0, .slice none 0 0, .int .i64 0, .int .i64 0, .int .i64 0, .int .i64 0, .int .i64 0, .int .i64 0, .int .i64 0, .int .i64 0, .map none, .int .i32 0, .int .u32 0] : List Value)).toArray) := by kernel_rfl
theorem u67 : Tryz.prog.underlying 67 = some (.struct ([{ name := "Width", type := 3, offset := 0, embedded := false, tag := "", pkgPath := "", byteOffset := 0 }, { name := "All", type := 48, offset := 1, embedded := false, tag := "", pkgPath := "", byteOffset := 8 }, { name := "In", type := 32, offset := 2, embedded := false, tag := "", pkgPath := "", byteOffset := 32 }]).toArray) := by kernel_rfl
theorem z67 : Tryz.prog.sz 67 = some 3 := by kernel_rfl
theorem zr67 : Tryz.prog.zr 67 = some ((([.int .i64 0, .slice none 0 0, .slice none 0 0] : List Value)).toArray) := by kernel_rfl
theorem u68 : Tryz.prog.underlying 68 = some (.struct ([{ name := "Width", type := 3, offset := 0, embedded := false, tag := "", pkgPath := "", byteOffset := 0 }, { name := "All", type := 48, offset := 1, embedded := false, tag := "", pkgPath := "", byteOffset := 8 }, { name := "In", type := 32, offset := 2, embedded := false, tag := "", pkgPath := "", byteOffset := 32 }]).toArray) := by kernel_rfl
theorem z68 : Tryz.prog.sz 68 = some 3 := by kernel_rfl
theorem zr68 : Tryz.prog.zr 68 = some ((([.int .i64 0, .slice none 0 0, .slice none 0 0] : List Value)).toArray) := by kernel_rfl
theorem u69 : Tryz.prog.underlying 69 = some (.tuple ([32, 32, 4]).toArray) := by kernel_rfl
theorem z69 : Tryz.prog.sz 69 = some 1 := by kernel_rfl
theorem u70 : Tryz.prog.underlying 70 = some (.func ([32, 32]).toArray ([32, 32, 4]).toArray false) := by kernel_rfl
theorem z70 : Tryz.prog.sz 70 = some 1 := by kernel_rfl
theorem zr70 : Tryz.prog.zr 70 = some ((([.nilFunc] : List Value)).toArray) := by kernel_rfl
theorem u71 : Tryz.prog.underlying 71 = some (.func ([32]).toArray ([4]).toArray false) := by kernel_rfl
theorem z71 : Tryz.prog.sz 71 = some 1 := by kernel_rfl
theorem zr71 : Tryz.prog.zr 71 = some ((([.nilFunc] : List Value)).toArray) := by kernel_rfl
theorem u72 : Tryz.prog.underlying 72 = some (.map 9 56) := by kernel_rfl
theorem z72 : Tryz.prog.sz 72 = some 1 := by kernel_rfl
theorem zr72 : Tryz.prog.zr 72 = some ((([.map none] : List Value)).toArray) := by kernel_rfl
theorem u73 : Tryz.prog.underlying 73 = some (.struct ([{ name := "cols", type := 32, offset := 0, embedded := false, tag := "", pkgPath := "hearsay/rel", byteOffset := 0 }, { name := "rows", type := 72, offset := 1, embedded := false, tag := "", pkgPath := "hearsay/rel", byteOffset := 24 }]).toArray) := by kernel_rfl
theorem z73 : Tryz.prog.sz 73 = some 2 := by kernel_rfl
theorem zr73 : Tryz.prog.zr 73 = some ((([.slice none 0 0, .map none] : List Value)).toArray) := by kernel_rfl
theorem u74 : Tryz.prog.underlying 74 = some (.struct ([{ name := "cols", type := 32, offset := 0, embedded := false, tag := "", pkgPath := "hearsay/rel", byteOffset := 0 }, { name := "rows", type := 72, offset := 1, embedded := false, tag := "", pkgPath := "hearsay/rel", byteOffset := 24 }]).toArray) := by kernel_rfl
theorem z74 : Tryz.prog.sz 74 = some 2 := by kernel_rfl
theorem zr74 : Tryz.prog.zr 74 = some ((([.slice none 0 0, .map none] : List Value)).toArray) := by kernel_rfl
theorem u75 : Tryz.prog.underlying 75 = some (.pointer 74) := by kernel_rfl
theorem z75 : Tryz.prog.sz 75 = some 1 := by kernel_rfl
theorem zr75 : Tryz.prog.zr 75 = some ((([.pointer none] : List Value)).toArray) := by kernel_rfl
theorem u76 : Tryz.prog.underlying 76 = some (.func ([32]).toArray ([75]).toArray false) := by kernel_rfl
theorem z76 : Tryz.prog.sz 76 = some 1 := by kernel_rfl
theorem zr76 : Tryz.prog.zr 76 = some ((([.nilFunc] : List Value)).toArray) := by kernel_rfl
theorem u77 : Tryz.prog.underlying 77 = some (.func ([32]).toArray ([9]).toArray false) := by kernel_rfl
theorem z77 : Tryz.prog.sz 77 = some 1 := by kernel_rfl
theorem zr77 : Tryz.prog.zr 77 = some ((([.nilFunc] : List Value)).toArray) := by kernel_rfl
theorem u78 : Tryz.prog.underlying 78 = some (.pointer 80) := by kernel_rfl
theorem z78 : Tryz.prog.sz 78 = some 1 := by kernel_rfl
theorem zr78 : Tryz.prog.zr 78 = some ((([.pointer none] : List Value)).toArray) := by kernel_rfl
theorem u79 : Tryz.prog.underlying 79 = some (.struct ([{ name := "row", type := 32, offset := 0, embedded := false, tag := "", pkgPath := "hearsay/rel", byteOffset := 0 }, { name := "part", type := 3, offset := 1, embedded := false, tag := "", pkgPath := "hearsay/rel", byteOffset := 24 }]).toArray) := by kernel_rfl
theorem z79 : Tryz.prog.sz 79 = some 2 := by kernel_rfl
theorem zr79 : Tryz.prog.zr 79 = some ((([.slice none 0 0, .int .i64 0] : List Value)).toArray) := by kernel_rfl
theorem u80 : Tryz.prog.underlying 80 = some (.struct ([{ name := "row", type := 32, offset := 0, embedded := false, tag := "", pkgPath := "hearsay/rel", byteOffset := 0 }, { name := "part", type := 3, offset := 1, embedded := false, tag := "", pkgPath := "hearsay/rel", byteOffset := 24 }]).toArray) := by kernel_rfl
theorem z80 : Tryz.prog.sz 80 = some 2 := by kernel_rfl
theorem zr80 : Tryz.prog.zr 80 = some ((([.slice none 0 0, .int .i64 0] : List Value)).toArray) := by kernel_rfl
theorem u81 : Tryz.prog.underlying 81 = some (.func ([48, 82]).toArray ([]).toArray false) := by kernel_rfl
theorem z81 : Tryz.prog.sz 81 = some 1 := by kernel_rfl
theorem zr81 : Tryz.prog.zr 81 = some ((([.nilFunc] : List Value)).toArray) := by kernel_rfl
theorem u82 : Tryz.prog.underlying 82 = some (.func ([32, 32]).toArray ([3]).toArray false) := by kernel_rfl
theorem z82 : Tryz.prog.sz 82 = some 1 := by kernel_rfl
theorem zr82 : Tryz.prog.zr 82 = some ((([.nilFunc] : List Value)).toArray) := by kernel_rfl
theorem u83 : Tryz.prog.underlying 83 = some (.func ([78]).toArray ([]).toArray false) := by kernel_rfl
theorem z83 : Tryz.prog.sz 83 = some 1 := by kernel_rfl
theorem zr83 : Tryz.prog.zr 83 = some ((([.nilFunc] : List Value)).toArray) := by kernel_rfl
theorem u84 : Tryz.prog.underlying 84 = some (.func ([56, 3]).toArray ([]).toArray false) := by kernel_rfl
theorem z84 : Tryz.prog.sz 84 = some 1 := by kernel_rfl
theorem zr84 : Tryz.prog.zr 84 = some ((([.nilFunc] : List Value)).toArray) := by kernel_rfl
theorem u85 : Tryz.prog.underlying 85 = some (.tuple ([3, 4]).toArray) := by kernel_rfl
theorem z85 : Tryz.prog.sz 85 = some 1 := by kernel_rfl
theorem u86 : Tryz.prog.underlying 86 = some (.func ([32]).toArray ([3, 4]).toArray false) := by kernel_rfl
theorem z86 : Tryz.prog.sz 86 = some 1 := by kernel_rfl
theorem zr86 : Tryz.prog.zr 86 = some ((([.nilFunc] : List Value)).toArray) := by kernel_rfl
theorem u87 : Tryz.prog.underlying 87 = some (.func ([3, 32, 32]).toArray ([48]).toArray false) := by kernel_rfl
theorem z87 : Tryz.prog.sz 87 = some 1 := by kernel_rfl
theorem zr87 : Tryz.prog.zr 87 = some ((([.nilFunc] : List Value)).toArray) := by kernel_rfl
theorem u88 : Tryz.prog.underlying 88 = some (.map 3 3) := by kernel_rfl
theorem z88 : Tryz.prog.sz 88 = some 1 := by kernel_rfl
theorem zr88 : Tryz.prog.zr 88 = some ((([.map none] : List Value)).toArray) := by kernel_rfl
theorem u89 : Tryz.prog.underlying 89 = some (.func ([32]).toArray ([]).toArray false) := by kernel_rfl
theorem z89 : Tryz.prog.sz 89 = some 1 := by kernel_rfl
theorem zr89 : Tryz.prog.zr 89 = some ((([.nilFunc] : List Value)).toArray) := by kernel_rfl
theorem u90 : Tryz.prog.underlying 90 = some (.func ([48, 3, 3, 3, 82]).toArray ([]).toArray false) := by kernel_rfl
theorem z90 : Tryz.prog.sz 90 = some 1 := by kernel_rfl
theorem zr90 : Tryz.prog.zr 90 = some ((([.nilFunc] : List Value)).toArray) := by kernel_rfl
theorem u91 : Tryz.prog.underlying 91 = some (.func ([92]).toArray ([3]).toArray false) := by kernel_rfl
theorem z91 : Tryz.prog.sz 91 = some 1 := by kernel_rfl
theorem zr91 : Tryz.prog.zr 91 = some ((([.nilFunc] : List Value)).toArray) := by kernel_rfl
theorem u92 : Tryz.prog.underlying 92 = some (.int .u64) := by kernel_rfl
theorem z92 : Tryz.prog.sz 92 = some 1 := by kernel_rfl
theorem zr92 : Tryz.prog.zr 92 = some ((([.int .u64 0] : List Value)).toArray) := by kernel_rfl
theorem u93 : Tryz.prog.underlying 93 = some (.func ([3, 3]).toArray ([3]).toArray false) := by kernel_rfl
theorem z93 : Tryz.prog.sz 93 = some 1 := by kernel_rfl
theorem zr93 : Tryz.prog.zr 93 = some ((([.nilFunc] : List Value)).toArray) := by kernel_rfl
theorem u94 : Tryz.prog.underlying 94 = some (.slice 5) := by kernel_rfl
theorem z94 : Tryz.prog.sz 94 = some 1 := by kernel_rfl
theorem zr94 : Tryz.prog.zr 94 = some ((([.slice none 0 0] : List Value)).toArray) := by kernel_rfl
theorem u95 : Tryz.prog.underlying 95 = some (.func ([94, 2, 3]).toArray ([94]).toArray false) := by kernel_rfl
theorem z95 : Tryz.prog.sz 95 = some 1 := by kernel_rfl
theorem zr95 : Tryz.prog.zr 95 = some ((([.nilFunc] : List Value)).toArray) := by kernel_rfl
theorem u96 : Tryz.prog.underlying 96 = some (.func ([32, 32]).toArray ([32]).toArray false) := by kernel_rfl
theorem z96 : Tryz.prog.sz 96 = some 1 := by kernel_rfl
theorem zr96 : Tryz.prog.zr 96 = some ((([.nilFunc] : List Value)).toArray) := by kernel_rfl
theorem u97 : Tryz.prog.underlying 97 = some (.func ([32, 32, 32]).toArray ([4]).toArray false) := by kernel_rfl
theorem z97 : Tryz.prog.sz 97 = some 1 := by kernel_rfl
theorem zr97 : Tryz.prog.zr 97 = some ((([.nilFunc] : List Value)).toArray) := by kernel_rfl
theorem u98 : Tryz.prog.underlying 98 = some (.func ([32, 3, 3, 3]).toArray ([]).toArray false) := by kernel_rfl
theorem z98 : Tryz.prog.sz 98 = some 1 := by kernel_rfl
theorem zr98 : Tryz.prog.zr 98 = some ((([.nilFunc] : List Value)).toArray) := by kernel_rfl
theorem u99 : Tryz.prog.underlying 99 = some (.pointer 64) := by kernel_rfl
theorem z99 : Tryz.prog.sz 99 = some 1 := by kernel_rfl
theorem zr99 : Tryz.prog.zr 99 = some ((([.pointer none] : List Value)).toArray) := by kernel_rfl
theorem u100 : Tryz.prog.underlying 100 = some (.func ([48, 3, 3, 82]).toArray ([]).toArray false) := by kernel_rfl
theorem z100 : Tryz.prog.sz 100 = some 1 := by kernel_rfl
theorem zr100 : Tryz.prog.zr 100 = some ((([.nilFunc] : List Value)).toArray) := by kernel_rfl
theorem u101 : Tryz.prog.underlying 101 = some (.int .i64) := by kernel_rfl
theorem z101 : Tryz.prog.sz 101 = some 1 := by kernel_rfl
theorem zr101 : Tryz.prog.zr 101 = some ((([.int .i64 0] : List Value)).toArray) := by kernel_rfl
theorem u102 : Tryz.prog.underlying 102 = some (.tuple ([3, 101]).toArray) := by kernel_rfl
theorem z102 : Tryz.prog.sz 102 = some 1 := by kernel_rfl
theorem u103 : Tryz.prog.underlying 103 = some (.func ([48, 3, 3, 82]).toArray ([3, 101]).toArray false) := by kernel_rfl
theorem z103 : Tryz.prog.sz 103 = some 1 := by kernel_rfl
theorem zr103 : Tryz.prog.zr 103 = some ((([.nilFunc] : List Value)).toArray) := by kernel_rfl
theorem u104 : Tryz.prog.underlying 104 = some (.func ([48, 3, 3, 82]).toArray ([4]).toArray false) := by kernel_rfl
theorem z104 : Tryz.prog.sz 104 = some 1 := by kernel_rfl
theorem zr104 : Tryz.prog.zr 104 = some ((([.nilFunc] : List Value)).toArray) := by kernel_rfl
theorem u105 : Tryz.prog.underlying 105 = some (.func ([48, 3, 3, 3, 82]).toArray ([3]).toArray false) := by kernel_rfl
theorem z105 : Tryz.prog.sz 105 = some 1 := by kernel_rfl
theorem zr105 : Tryz.prog.zr 105 = some ((([.nilFunc] : List Value)).toArray) := by kernel_rfl
theorem u106 : Tryz.prog.underlying 106 = some (.func ([48, 3, 3, 3, 82]).toArray ([3, 4]).toArray false) := by kernel_rfl
theorem z106 : Tryz.prog.sz 106 = some 1 := by kernel_rfl
theorem zr106 : Tryz.prog.zr 106 = some ((([.nilFunc] : List Value)).toArray) := by kernel_rfl
theorem u107 : Tryz.prog.underlying 107 = some (.func ([60]).toArray ([3]).toArray false) := by kernel_rfl
theorem z107 : Tryz.prog.sz 107 = some 1 := by kernel_rfl
theorem zr107 : Tryz.prog.zr 107 = some ((([.nilFunc] : List Value)).toArray) := by kernel_rfl
theorem u108 : Tryz.prog.underlying 108 = some (.func ([109]).toArray ([3]).toArray false) := by kernel_rfl
theorem z108 : Tryz.prog.sz 108 = some 1 := by kernel_rfl
theorem zr108 : Tryz.prog.zr 108 = some ((([.nilFunc] : List Value)).toArray) := by kernel_rfl
theorem u109 : Tryz.prog.underlying 109 = some (.int .u64) := by kernel_rfl
theorem z109 : Tryz.prog.sz 109 = some 1 := by kernel_rfl
theorem zr109 : Tryz.prog.zr 109 = some ((([.int .u64 0] : List Value)).toArray) := by kernel_rfl
theorem u110 : Tryz.prog.underlying 110 = some (.func ([3]).toArray ([4]).toArray false) := by kernel_rfl
theorem z110 : Tryz.prog.sz 110 = some 1 := by kernel_rfl
theorem zr110 : Tryz.prog.zr 110 = some ((([.nilFunc] : List Value)).toArray) := by kernel_rfl
theorem u111 : Tryz.prog.underlying 111 = some (.func ([32, 3, 3]).toArray ([]).toArray false) := by kernel_rfl
theorem z111 : Tryz.prog.sz 111 = some 1 := by kernel_rfl
theorem zr111 : Tryz.prog.zr 111 = some ((([.nilFunc] : List Value)).toArray) := by kernel_rfl
theorem u112 : Tryz.prog.underlying 112 = some (.func ([32, 3, 3]).toArray ([3, 101]).toArray false) := by kernel_rfl
theorem z112 : Tryz.prog.sz 112 = some 1 := by kernel_rfl
theorem zr112 : Tryz.prog.zr 112 = some ((([.nilFunc] : List Value)).toArray) := by kernel_rfl
theorem u113 : Tryz.prog.underlying 113 = some (.func ([32, 3, 3]).toArray ([4]).toArray false) := by kernel_rfl
theorem z113 : Tryz.prog.sz 113 = some 1 := by kernel_rfl
theorem zr113 : Tryz.prog.zr 113 = some ((([.nilFunc] : List Value)).toArray) := by kernel_rfl
theorem u114 : Tryz.prog.underlying 114 = some (.func ([3, 3]).toArray ([4]).toArray false) := by kernel_rfl
theorem z114 : Tryz.prog.sz 114 = some 1 := by kernel_rfl
theorem zr114 : Tryz.prog.zr 114 = some ((([.nilFunc] : List Value)).toArray) := by kernel_rfl
theorem u115 : Tryz.prog.underlying 115 = some (.func ([32, 3, 3, 3]).toArray ([3]).toArray false) := by kernel_rfl
theorem z115 : Tryz.prog.sz 115 = some 1 := by kernel_rfl
theorem zr115 : Tryz.prog.zr 115 = some ((([.nilFunc] : List Value)).toArray) := by kernel_rfl
theorem u116 : Tryz.prog.underlying 116 = some (.func ([32, 3, 3, 3]).toArray ([3, 4]).toArray false) := by kernel_rfl
theorem z116 : Tryz.prog.sz 116 = some 1 := by kernel_rfl
theorem zr116 : Tryz.prog.zr 116 = some ((([.nilFunc] : List Value)).toArray) := by kernel_rfl
theorem u117 : Tryz.prog.underlying 117 = some (.pointer 62) := by kernel_rfl
theorem z117 : Tryz.prog.sz 117 = some 1 := by kernel_rfl
theorem zr117 : Tryz.prog.zr 117 = some ((([.pointer none] : List Value)).toArray) := by kernel_rfl
theorem u118 : Tryz.prog.underlying 118 = some (.func ([119, 21, 21]).toArray ([4]).toArray false) := by kernel_rfl
theorem z118 : Tryz.prog.sz 118 = some 1 := by kernel_rfl
theorem zr118 : Tryz.prog.zr 118 = some ((([.nilFunc] : List Value)).toArray) := by kernel_rfl
theorem u119 : Tryz.prog.underlying 119 = some (.pointer 21) := by kernel_rfl
theorem z119 : Tryz.prog.sz 119 = some 1 := by kernel_rfl
theorem zr119 : Tryz.prog.zr 119 = some ((([.pointer none] : List Value)).toArray) := by kernel_rfl
theorem u120 : Tryz.prog.underlying 120 = some (.func ([121]).toArray ([]).toArray false) := by kernel_rfl
theorem z120 : Tryz.prog.sz 120 = some 1 := by kernel_rfl
theorem zr120 : Tryz.prog.zr 120 = some ((([.nilFunc] : List Value)).toArray) := by kernel_rfl
theorem u121 : Tryz.prog.underlying 121 = some .unsafePointer := by kernel_rfl
theorem z121 : Tryz.prog.sz 121 = some 1 := by kernel_rfl
theorem zr121 : Tryz.prog.zr 121 = some ((([.pointer none] : List Value)).toArray) := by kernel_rfl
theorem u122 : Tryz.prog.underlying 122 = some (.func ([119, 21]).toArray ([21]).toArray false) := by kernel_rfl
theorem z122 : Tryz.prog.sz 122 = some 1 := by kernel_rfl
theorem zr122 : Tryz.prog.zr 122 = some ((([.nilFunc] : List Value)).toArray) := by kernel_rfl
theorem u123 : Tryz.prog.underlying 123 = some (.func ([21]).toArray ([]).toArray false) := by kernel_rfl
theorem z123 : Tryz.prog.sz 123 = some 1 := by kernel_rfl
theorem zr123 : Tryz.prog.zr 123 = some ((([.nilFunc] : List Value)).toArray) := by kernel_rfl
theorem u124 : Tryz.prog.underlying 124 = some (.int .u64) := by kernel_rfl
theorem z124 : Tryz.prog.sz 124 = some 1 := by kernel_rfl
theorem zr124 : Tryz.prog.zr 124 = some ((([.int .u64 0] : List Value)).toArray) := by kernel_rfl
theorem u125 : Tryz.prog.underlying 125 = some (.func ([3]).toArray ([92]).toArray false) := by kernel_rfl
theorem z125 : Tryz.prog.sz 125 = some 1 := by kernel_rfl
theorem zr125 : Tryz.prog.zr 125 = some ((([.nilFunc] : List Value)).toArray) := by kernel_rfl
theorem u126 : Tryz.prog.underlying 126 = some (.func ([]).toArray ([109]).toArray false) := by kernel_rfl
theorem z126 : Tryz.prog.sz 126 = some 1 := by kernel_rfl
theorem zr126 : Tryz.prog.zr 126 = some ((([.nilFunc] : List Value)).toArray) := by kernel_rfl
theorem u127 : Tryz.prog.underlying 127 = some (.func ([48, 3, 128, 82]).toArray ([3]).toArray false) := by kernel_rfl
theorem z127 : Tryz.prog.sz 127 = some 1 := by kernel_rfl
theorem zr127 : Tryz.prog.zr 127 = some ((([.nilFunc] : List Value)).toArray) := by kernel_rfl
theorem u128 : Tryz.prog.underlying 128 = some (.pointer 3) := by kernel_rfl
theorem z128 : Tryz.prog.sz 128 = some 1 := by kernel_rfl
theorem zr128 : Tryz.prog.zr 128 = some ((([.pointer none] : List Value)).toArray) := by kernel_rfl
theorem u129 : Tryz.prog.underlying 129 = some (.func ([48, 3, 3, 3, 128, 82]).toArray ([3]).toArray false) := by kernel_rfl
theorem z129 : Tryz.prog.sz 129 = some 1 := by kernel_rfl
theorem zr129 : Tryz.prog.zr 129 = some ((([.nilFunc] : List Value)).toArray) := by kernel_rfl
theorem u130 : Tryz.prog.underlying 130 = some (.func ([94, 109, 3]).toArray ([94]).toArray false) := by kernel_rfl
theorem z130 : Tryz.prog.sz 130 = some 1 := by kernel_rfl
theorem zr130 : Tryz.prog.zr 130 = some ((([.nilFunc] : List Value)).toArray) := by kernel_rfl
theorem u131 : Tryz.prog.underlying 131 = some (.func ([32, 3, 128]).toArray ([3]).toArray false) := by kernel_rfl
theorem z131 : Tryz.prog.sz 131 = some 1 := by kernel_rfl
theorem zr131 : Tryz.prog.zr 131 = some ((([.nilFunc] : List Value)).toArray) := by kernel_rfl
theorem u132 : Tryz.prog.underlying 132 = some (.func ([32, 3, 3, 3, 128]).toArray ([3]).toArray false) := by kernel_rfl
theorem z132 : Tryz.prog.sz 132 = some 1 := by kernel_rfl
theorem zr132 : Tryz.prog.zr 132 = some ((([.nilFunc] : List Value)).toArray) := by kernel_rfl
theorem u133 : Tryz.prog.underlying 133 = some (.func ([9]).toArray ([]).toArray false) := by kernel_rfl
theorem z133 : Tryz.prog.sz 133 = some 1 := by kernel_rfl
theorem zr133 : Tryz.prog.zr 133 = some ((([.nilFunc] : List Value)).toArray) := by kernel_rfl
theorem u134 : Tryz.prog.underlying 134 = some (.func ([]).toArray ([2]).toArray false) := by kernel_rfl
theorem z134 : Tryz.prog.sz 134 = some 1 := by kernel_rfl
theorem zr134 : Tryz.prog.zr 134 = some ((([.nilFunc] : List Value)).toArray) := by kernel_rfl
theorem u135 : Tryz.prog.underlying 135 = some (.func ([136, 4, 3]).toArray ([]).toArray false) := by kernel_rfl
theorem z135 : Tryz.prog.sz 135 = some 1 := by kernel_rfl
theorem zr135 : Tryz.prog.zr 135 = some ((([.nilFunc] : List Value)).toArray) := by kernel_rfl
theorem u136 : Tryz.prog.underlying 136 = some (.pointer 60) := by kernel_rfl
theorem z136 : Tryz.prog.sz 136 = some 1 := by kernel_rfl
theorem zr136 : Tryz.prog.zr 136 = some ((([.pointer none] : List Value)).toArray) := by kernel_rfl
theorem u137 : Tryz.prog.underlying 137 = some (.pointer 124) := by kernel_rfl
theorem z137 : Tryz.prog.sz 137 = some 1 := by kernel_rfl
theorem zr137 : Tryz.prog.zr 137 = some ((([.pointer none] : List Value)).toArray) := by kernel_rfl
theorem u138 : Tryz.prog.underlying 138 = some (.tuple ([3, 3]).toArray) := by kernel_rfl
theorem z138 : Tryz.prog.sz 138 = some 1 := by kernel_rfl
theorem u139 : Tryz.prog.underlying 139 = some (.func ([48, 3, 3, 128, 82]).toArray ([3, 3]).toArray false) := by kernel_rfl
theorem z139 : Tryz.prog.sz 139 = some 1 := by kernel_rfl
theorem zr139 : Tryz.prog.zr 139 = some ((([.nilFunc] : List Value)).toArray) := by kernel_rfl
theorem u140 : Tryz.prog.underlying 140 = some (.func ([3]).toArray ([9]).toArray false) := by kernel_rfl
theorem z140 : Tryz.prog.sz 140 = some 1 := by kernel_rfl
theorem zr140 : Tryz.prog.zr 140 = some ((([.nilFunc] : List Value)).toArray) := by kernel_rfl
theorem u141 : Tryz.prog.underlying 141 = some (.array 24 5) := by kernel_rfl
theorem z141 : Tryz.prog.sz 141 = some 24 := by kernel_rfl
theorem zr141 : Tryz.prog.zr 141 = some ((u8s (List.replicate 24 0)).toArray) := by kernel_rfl
theorem u142 : Tryz.prog.underlying 142 = some (.func ([94, 109]).toArray ([]).toArray false) := by kernel_rfl
theorem z142 : Tryz.prog.sz 142 = some 1 := by kernel_rfl
theorem zr142 : Tryz.prog.zr 142 = some ((([.nilFunc] : List Value)).toArray) := by kernel_rfl
theorem u143 : Tryz.prog.underlying 143 = some (.tuple ([94, 9]).toArray) := by kernel_rfl
theorem z143 : Tryz.prog.sz 143 = some 1 := by kernel_rfl
theorem u144 : Tryz.prog.underlying 144 = some (.func ([94, 109, 3, 4, 4]).toArray ([94, 9]).toArray false) := by kernel_rfl
theorem z144 : Tryz.prog.sz 144 = some 1 := by kernel_rfl
theorem zr144 : Tryz.prog.zr 144 = some ((([.nilFunc] : List Value)).toArray) := by kernel_rfl
theorem u145 : Tryz.prog.underlying 145 = some (.func ([32, 3, 3, 128]).toArray ([3, 3]).toArray false) := by kernel_rfl
theorem z145 : Tryz.prog.sz 145 = some 1 := by kernel_rfl
theorem zr145 : Tryz.prog.zr 145 = some ((([.nilFunc] : List Value)).toArray) := by kernel_rfl
theorem u146 : Tryz.prog.underlying 146 = some (.func ([4]).toArray ([3]).toArray false) := by kernel_rfl
theorem z146 : Tryz.prog.sz 146 = some 1 := by kernel_rfl
theorem zr146 : Tryz.prog.zr 146 = some ((([.nilFunc] : List Value)).toArray) := by kernel_rfl
theorem u147 : Tryz.prog.underlying 147 = some (.array 20 109) := by kernel_rfl
theorem z147 : Tryz.prog.sz 147 = some 20 := by kernel_rfl
theorem zr147 : Tryz.prog.zr 147 = some ((List.replicate 20 (.int .u64 0)).toArray) := by kernel_rfl
theorem u148 : Tryz.prog.underlying 148 = some (.array 65 5) := by kernel_rfl
theorem z148 : Tryz.prog.sz 148 = some 65 := by kernel_rfl
theorem zr148 : Tryz.prog.zr 148 = some ((u8s (List.replicate 65 0)).toArray) := by kernel_rfl
theorem u149 : Tryz.prog.underlying 149 = some (.array 32 5) := by kernel_rfl
theorem z149 : Tryz.prog.sz 149 = some 32 := by kernel_rfl
theorem zr149 : Tryz.prog.zr 149 = some ((u8s (List.replicate 32 0)).toArray) := by kernel_rfl
theorem u150 : Tryz.prog.underlying 150 = some (.array 64 5) := by kernel_rfl
theorem z150 : Tryz.prog.sz 150 = some 64 := by kernel_rfl
theorem zr150 : Tryz.prog.zr 150 = some ((u8s (List.replicate 64 0)).toArray) := by kernel_rfl
theorem u151 : Tryz.prog.underlying 151 = some (.func ([]).toArray ([9]).toArray false) := by kernel_rfl
theorem z151 : Tryz.prog.sz 151 = some 1 := by kernel_rfl
theorem zr151 : Tryz.prog.zr 151 = some ((([.nilFunc] : List Value)).toArray) := by kernel_rfl
theorem u152 : Tryz.prog.underlying 152 = some (.struct ([{ name := "_interface", type := 17, offset := 0, embedded := false, tag := "", pkgPath := "runtime", byteOffset := 0 }, { name := "concrete", type := 17, offset := 1, embedded := false, tag := "", pkgPath := "runtime", byteOffset := 8 }, { name := "asserted", type := 17, offset := 2, embedded := false, tag := "", pkgPath := "runtime", byteOffset := 16 }, { name := "missingMethod", type := 9, offset := 3, embedded := false, tag := "", pkgPath := "runtime", byteOffset := 24 }]).toArray) := by kernel_rfl
theorem z152 : Tryz.prog.sz 152 = some 4 := by kernel_rfl
theorem zr152 : Tryz.prog.zr 152 = some ((([.pointer none, .pointer none, .pointer none, .string ⟨#[]⟩] : List Value)).toArray) := by kernel_rfl
theorem u153 : Tryz.prog.underlying 153 = some (.struct ([{ name := "_interface", type := 17, offset := 0, embedded := false, tag := "", pkgPath := "runtime", byteOffset := 0 }, { name := "concrete", type := 17, offset := 1, embedded := false, tag := "", pkgPath := "runtime", byteOffset := 8 }, { name := "asserted", type := 17, offset := 2, embedded := false, tag := "", pkgPath := "runtime", byteOffset := 16 }, { name := "missingMethod", type := 9, offset := 3, embedded := false, tag := "", pkgPath := "runtime", byteOffset := 24 }]).toArray) := by kernel_rfl
theorem z153 : Tryz.prog.sz 153 = some 4 := by kernel_rfl
theorem zr153 : Tryz.prog.zr 153 = some ((([.pointer none, .pointer none, .pointer none, .string ⟨#[]⟩] : List Value)).toArray) := by kernel_rfl
theorem u154 : Tryz.prog.underlying 154 = some (.array 0 16) := by kernel_rfl
theorem z154 : Tryz.prog.sz 154 = some 0 := by kernel_rfl
theorem zr154 : Tryz.prog.zr 154 = some ((([] : List Value)).toArray) := by kernel_rfl
theorem u155 : Tryz.prog.underlying 155 = some (.struct ([{ name := "_", type := 154, offset := 0, embedded := false, tag := "", pkgPath := "runtime", byteOffset := 0 }]).toArray) := by kernel_rfl
theorem z155 : Tryz.prog.sz 155 = some 0 := by kernel_rfl
theorem zr155 : Tryz.prog.zr 155 = some ((([] : List Value)).toArray) := by kernel_rfl
theorem u156 : Tryz.prog.underlying 156 = some (.struct ([{ name := "_", type := 154, offset := 0, embedded := false, tag := "", pkgPath := "runtime", byteOffset := 0 }]).toArray) := by kernel_rfl
theorem z156 : Tryz.prog.sz 156 = some 0 := by kernel_rfl
theorem zr156 : Tryz.prog.zr 156 = some ((([] : List Value)).toArray) := by kernel_rfl
theorem u157 : Tryz.prog.underlying 157 = some (.int .u8) := by kernel_rfl
theorem z157 : Tryz.prog.sz 157 = some 1 := by kernel_rfl
theorem zr157 : Tryz.prog.zr 157 = some ((([.int .u8 0] : List Value)).toArray) := by kernel_rfl
theorem u158 : Tryz.prog.underlying 158 = some (.int .u8) := by kernel_rfl
theorem z158 : Tryz.prog.sz 158 = some 1 := by kernel_rfl
theorem zr158 : Tryz.prog.zr 158 = some ((([.int .u8 0] : List Value)).toArray) := by kernel_rfl
theorem u159 : Tryz.prog.underlying 159 = some (.func ([121, 121]).toArray ([4]).toArray false) := by kernel_rfl
theorem z159 : Tryz.prog.sz 159 = some 1 := by kernel_rfl
theorem zr159 : Tryz.prog.zr 159 = some ((([.nilFunc] : List Value)).toArray) := by kernel_rfl
theorem u160 : Tryz.prog.underlying 160 = some (.pointer 5) := by kernel_rfl
theorem z160 : Tryz.prog.sz 160 = some 1 := by kernel_rfl
theorem zr160 : Tryz.prog.zr 160 = some ((([.pointer none] : List Value)).toArray) := by kernel_rfl
theorem u161 : Tryz.prog.underlying 161 = some (.int .i32) := by kernel_rfl
theorem z161 : Tryz.prog.sz 161 = some 1 := by kernel_rfl
theorem zr161 : Tryz.prog.zr 161 = some ((([.int .i32 0] : List Value)).toArray) := by kernel_rfl
theorem u162 : Tryz.prog.underlying 162 = some (.int .i32) := by kernel_rfl
theorem z162 : Tryz.prog.sz 162 = some 1 := by kernel_rfl
theorem zr162 : Tryz.prog.zr 162 = some ((([.int .i32 0] : List Value)).toArray) := by kernel_rfl
theorem u163 : Tryz.prog.underlying 163 = some (.struct ([{ name := "Size_", type := 12, offset := 0, embedded := false, tag := "", pkgPath := "", byteOffset := 0 }, { name := "PtrBytes", type := 12, offset := 1, embedded := false, tag := "", pkgPath := "", byteOffset := 8 }, { name := "Hash", type := 60, offset := 2, embedded := false, tag := "", pkgPath := "", byteOffset := 16 }, { name := "TFlag", type := 157, offset := 3, embedded := false, tag := "", pkgPath := "", byteOffset := 20 }, { name := "Align_", type := 5, offset := 4, embedded := false, tag := "", pkgPath := "", byteOffset := 21 }, { name := "FieldAlign_", type := 5, offset := 5, embedded := false, tag := "", pkgPath := "", byteOffset := 22 }, { name := "Kind_", type := 158, offset := 6, embedded := false, tag := "", pkgPath := "", byteOffset := 23 }, { name := "Equal", type := 159, offset := 7, embedded := false, tag := "", pkgPath := "", byteOffset := 24 }, { name := "GCData", type := 160, offset := 8, embedded := false, tag := "", pkgPath := "", byteOffset := 32 }, { name := "Str", type := 161, offset := 9, embedded := false, tag := "", pkgPath := "", byteOffset := 40 }, { name := "PtrToThis", type := 162, offset := 10, embedded := false, tag := "", pkgPath := "", byteOffset := 44 }]).toArray) := by kernel_rfl
theorem z163 : Tryz.prog.sz 163 = some 11 := by kernel_rfl
theorem zr163 : Tryz.prog.zr 163 = some ((([.int .u64 0, .int .u64 0, .int .u32 0] : List Value) ++ u8s (List.replicate 4 0) ++ ([.nilFunc, .pointer none, .int .i32 0, .int .i32 0] : List Value)).toArray) := by kernel_rfl
theorem u164 : Tryz.prog.underlying 164 = some (.struct ([{ name := "Size_", type := 12, offset := 0, embedded := false, tag := "", pkgPath := "", byteOffset := 0 }, { name := "PtrBytes", type := 12, offset := 1, embedded := false, tag := "", pkgPath := "", byteOffset := 8 }, { name := "Hash", type := 60, offset := 2, embedded := false, tag := "", pkgPath := "", byteOffset := 16 }, { name := "TFlag", type := 157, offset := 3, embedded := false, tag := "", pkgPath := "", byteOffset := 20 }, { name := "Align_", type := 5, offset := 4, embedded := false, tag := "", pkgPath := "", byteOffset := 21 }, { name := "FieldAlign_", type := 5, offset := 5, embedded := false, tag := "", pkgPath := "", byteOffset := 22 }, { name := "Kind_", type := 158, offset := 6, embedded := false, tag := "", pkgPath := "", byteOffset := 23 }, { name := "Equal", type := 159, offset := 7, embedded := false, tag := "", pkgPath := "", byteOffset := 24 }, { name := "GCData", type := 160, offset := 8, embedded := false, tag := "", pkgPath := "", byteOffset := 32 }, { name := "Str", type := 161, offset := 9, embedded := false, tag := "", pkgPath := "", byteOffset := 40 }, { name := "PtrToThis", type := 162, offset := 10, embedded := false, tag := "", pkgPath := "", byteOffset := 44 }]).toArray) := by kernel_rfl
theorem z164 : Tryz.prog.sz 164 = some 11 := by kernel_rfl
theorem zr164 : Tryz.prog.zr 164 = some ((([.int .u64 0, .int .u64 0, .int .u32 0] : List Value) ++ u8s (List.replicate 4 0) ++ ([.nilFunc, .pointer none, .int .i32 0, .int .i32 0] : List Value)).toArray) := by kernel_rfl
end Go.Proofs.YtijplknkpkmblaaGreatDoor.T
