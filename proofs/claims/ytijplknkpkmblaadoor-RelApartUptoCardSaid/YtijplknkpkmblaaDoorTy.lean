/- What the types of the loaded program are. Printed by mktypes.py. -/
import Derived.Test.YtijplknkpkmblaaDoorProg
import Derived.Test.YtijplknkpkmblaaDoorHxTurn
namespace Go.Proofs.YtijplknkpkmblaaDoor.T
open Go Go.Hw
set_option maxRecDepth 100000
theorem u0 : Tryd.prog.underlying 0 = some (.tuple ([]).toArray) := by kernel_rfl
theorem z0 : Tryd.prog.sz 0 = some 1 := by kernel_rfl
theorem u1 : Tryd.prog.underlying 1 = some (.func ([]).toArray ([]).toArray false) := by kernel_rfl
theorem z1 : Tryd.prog.sz 1 = some 1 := by kernel_rfl
theorem zr1 : Tryd.prog.zr 1 = some ((([.nilFunc] : List Value)).toArray) := by kernel_rfl
theorem u2 : Tryd.prog.underlying 2 = some (.int .i64) := by kernel_rfl
theorem z2 : Tryd.prog.sz 2 = some 1 := by kernel_rfl
theorem zr2 : Tryd.prog.zr 2 = some ((([.int .i64 0] : List Value)).toArray) := by kernel_rfl
theorem u3 : Tryd.prog.underlying 3 = some (.int .i64) := by kernel_rfl
theorem z3 : Tryd.prog.sz 3 = some 1 := by kernel_rfl
theorem zr3 : Tryd.prog.zr 3 = some ((([.int .i64 0] : List Value)).toArray) := by kernel_rfl
theorem u4 : Tryd.prog.underlying 4 = some .bool := by kernel_rfl
theorem z4 : Tryd.prog.sz 4 = some 1 := by kernel_rfl
theorem zr4 : Tryd.prog.zr 4 = some ((([.bool false] : List Value)).toArray) := by kernel_rfl
theorem u5 : Tryd.prog.underlying 5 = some (.int .u8) := by kernel_rfl
theorem z5 : Tryd.prog.sz 5 = some 1 := by kernel_rfl
theorem zr5 : Tryd.prog.zr 5 = some ((([.int .u8 0] : List Value)).toArray) := by kernel_rfl
theorem u6 : Tryd.prog.underlying 6 = some (.int .u8) := by kernel_rfl
theorem z6 : Tryd.prog.sz 6 = some 1 := by kernel_rfl
theorem zr6 : Tryd.prog.zr 6 = some ((([.int .u8 0] : List Value)).toArray) := by kernel_rfl
theorem u7 : Tryd.prog.underlying 7 = some (.struct ([{ name := "x", type := 2, offset := 0, embedded := false, tag := "", pkgPath := "runtime", byteOffset := 0 }, { name := "y", type := 3, offset := 1, embedded := false, tag := "", pkgPath := "runtime", byteOffset := 8 }, { name := "signed", type := 4, offset := 2, embedded := false, tag := "", pkgPath := "runtime", byteOffset := 16 }, { name := "code", type := 6, offset := 3, embedded := false, tag := "", pkgPath := "runtime", byteOffset := 17 }]).toArray) := by kernel_rfl
theorem z7 : Tryd.prog.sz 7 = some 4 := by kernel_rfl
theorem zr7 : Tryd.prog.zr 7 = some ((([.int .i64 0, .int .i64 0, .bool false, .int .u8 0] : List Value)).toArray) := by kernel_rfl
theorem u8 : Tryd.prog.underlying 8 = some (.struct ([{ name := "x", type := 2, offset := 0, embedded := false, tag := "", pkgPath := "runtime", byteOffset := 0 }, { name := "y", type := 3, offset := 1, embedded := false, tag := "", pkgPath := "runtime", byteOffset := 8 }, { name := "signed", type := 4, offset := 2, embedded := false, tag := "", pkgPath := "runtime", byteOffset := 16 }, { name := "code", type := 6, offset := 3, embedded := false, tag := "", pkgPath := "runtime", byteOffset := 17 }]).toArray) := by kernel_rfl
theorem z8 : Tryd.prog.sz 8 = some 4 := by kernel_rfl
theorem zr8 : Tryd.prog.zr 8 = some ((([.int .i64 0, .int .i64 0, .bool false, .int .u8 0] : List Value)).toArray) := by kernel_rfl
theorem u9 : Tryd.prog.underlying 9 = some .string := by kernel_rfl
theorem z9 : Tryd.prog.sz 9 = some 1 := by kernel_rfl
theorem zr9 : Tryd.prog.zr 9 = some ((([.string ⟨#[]⟩] : List Value)).toArray) := by kernel_rfl
theorem u10 : Tryd.prog.underlying 10 = some .string := by kernel_rfl
theorem z10 : Tryd.prog.sz 10 = some 1 := by kernel_rfl
theorem zr10 : Tryd.prog.zr 10 = some ((([.string ⟨#[]⟩] : List Value)).toArray) := by kernel_rfl
theorem u11 : Tryd.prog.underlying 11 = some .string := by kernel_rfl
theorem z11 : Tryd.prog.sz 11 = some 1 := by kernel_rfl
theorem zr11 : Tryd.prog.zr 11 = some ((([.string ⟨#[]⟩] : List Value)).toArray) := by kernel_rfl
theorem u12 : Tryd.prog.underlying 12 = some (.int .u64) := by kernel_rfl
theorem z12 : Tryd.prog.sz 12 = some 1 := by kernel_rfl
theorem zr12 : Tryd.prog.zr 12 = some ((([.int .u64 0] : List Value)).toArray) := by kernel_rfl
theorem u13 : Tryd.prog.underlying 13 = some (.struct ([{ name := "msg", type := 9, offset := 0, embedded := false, tag := "", pkgPath := "runtime", byteOffset := 0 }, { name := "addr", type := 12, offset := 1, embedded := false, tag := "", pkgPath := "runtime", byteOffset := 16 }]).toArray) := by kernel_rfl
theorem z13 : Tryd.prog.sz 13 = some 2 := by kernel_rfl
theorem zr13 : Tryd.prog.zr 13 = some ((([.string ⟨#[]⟩, .int .u64 0] : List Value)).toArray) := by kernel_rfl
theorem u14 : Tryd.prog.underlying 14 = some (.struct ([{ name := "msg", type := 9, offset := 0, embedded := false, tag := "", pkgPath := "runtime", byteOffset := 0 }, { name := "addr", type := 12, offset := 1, embedded := false, tag := "", pkgPath := "runtime", byteOffset := 16 }]).toArray) := by kernel_rfl
theorem z14 : Tryd.prog.sz 14 = some 2 := by kernel_rfl
theorem zr14 : Tryd.prog.zr 14 = some ((([.string ⟨#[]⟩, .int .u64 0] : List Value)).toArray) := by kernel_rfl
theorem u15 : Tryd.prog.underlying 15 = some (.pointer 158) := by kernel_rfl
theorem z15 : Tryd.prog.sz 15 = some 1 := by kernel_rfl
theorem zr15 : Tryd.prog.zr 15 = some ((([.pointer none] : List Value)).toArray) := by kernel_rfl
theorem u16 : Tryd.prog.underlying 16 = some (.pointer 161) := by kernel_rfl
theorem z16 : Tryd.prog.sz 16 = some 1 := by kernel_rfl
theorem zr16 : Tryd.prog.zr 16 = some ((([.pointer none] : List Value)).toArray) := by kernel_rfl
theorem u17 : Tryd.prog.underlying 17 = some (.pointer 169) := by kernel_rfl
theorem z17 : Tryd.prog.sz 17 = some 1 := by kernel_rfl
theorem zr17 : Tryd.prog.zr 17 = some ((([.pointer none] : List Value)).toArray) := by kernel_rfl
theorem u18 : Tryd.prog.underlying 18 = some (.struct ([{ name := "typ", type := 17, offset := 0, embedded := false, tag := "", pkgPath := "internal/runtime/maps", byteOffset := 0 }]).toArray) := by kernel_rfl
theorem z18 : Tryd.prog.sz 18 = some 1 := by kernel_rfl
theorem zr18 : Tryd.prog.zr 18 = some ((([.pointer none] : List Value)).toArray) := by kernel_rfl
theorem u19 : Tryd.prog.underlying 19 = some (.struct ([{ name := "typ", type := 17, offset := 0, embedded := false, tag := "", pkgPath := "internal/runtime/maps", byteOffset := 0 }]).toArray) := by kernel_rfl
theorem z19 : Tryd.prog.sz 19 = some 1 := by kernel_rfl
theorem zr19 : Tryd.prog.zr 19 = some ((([.pointer none] : List Value)).toArray) := by kernel_rfl
theorem u20 : Tryd.prog.underlying 20 = some (.interface ([]).toArray) := by kernel_rfl
theorem z20 : Tryd.prog.sz 20 = some 1 := by kernel_rfl
theorem zr20 : Tryd.prog.zr 20 = some ((([.nilIface] : List Value)).toArray) := by kernel_rfl
theorem u21 : Tryd.prog.underlying 21 = some (.int .i32) := by kernel_rfl
theorem z21 : Tryd.prog.sz 21 = some 1 := by kernel_rfl
theorem zr21 : Tryd.prog.zr 21 = some ((([.int .i32 0] : List Value)).toArray) := by kernel_rfl
theorem u22 : Tryd.prog.underlying 22 = some (.slice 45) := by kernel_rfl
theorem z22 : Tryd.prog.sz 22 = some 1 := by kernel_rfl
theorem zr22 : Tryd.prog.zr 22 = some ((([.slice none 0 0] : List Value)).toArray) := by kernel_rfl
theorem u23 : Tryd.prog.underlying 23 = some (.slice 3) := by kernel_rfl
theorem z23 : Tryd.prog.sz 23 = some 1 := by kernel_rfl
theorem zr23 : Tryd.prog.zr 23 = some ((([.slice none 0 0] : List Value)).toArray) := by kernel_rfl
theorem u24 : Tryd.prog.underlying 24 = some (.func ([3]).toArray ([3]).toArray false) := by kernel_rfl
theorem z24 : Tryd.prog.sz 24 = some 1 := by kernel_rfl
theorem zr24 : Tryd.prog.zr 24 = some ((([.nilFunc] : List Value)).toArray) := by kernel_rfl
theorem u25 : Tryd.prog.underlying 25 = some (.pointer 87) := by kernel_rfl
theorem z25 : Tryd.prog.sz 25 = some 1 := by kernel_rfl
theorem zr25 : Tryd.prog.zr 25 = some ((([.pointer none] : List Value)).toArray) := by kernel_rfl
theorem u26 : Tryd.prog.underlying 26 = some (.tuple ([25, 4]).toArray) := by kernel_rfl
theorem z26 : Tryd.prog.sz 26 = some 1 := by kernel_rfl
theorem u27 : Tryd.prog.underlying 27 = some (.func ([3, 22]).toArray ([25, 4]).toArray false) := by kernel_rfl
theorem z27 : Tryd.prog.sz 27 = some 1 := by kernel_rfl
theorem zr27 : Tryd.prog.zr 27 = some ((([.nilFunc] : List Value)).toArray) := by kernel_rfl
theorem u28 : Tryd.prog.underlying 28 = some (.func ([]).toArray ([4]).toArray false) := by kernel_rfl
theorem z28 : Tryd.prog.sz 28 = some 1 := by kernel_rfl
theorem zr28 : Tryd.prog.zr 28 = some ((([.nilFunc] : List Value)).toArray) := by kernel_rfl
theorem u29 : Tryd.prog.underlying 29 = some (.slice 23) := by kernel_rfl
theorem z29 : Tryd.prog.sz 29 = some 1 := by kernel_rfl
theorem zr29 : Tryd.prog.zr 29 = some ((([.slice none 0 0] : List Value)).toArray) := by kernel_rfl
theorem u30 : Tryd.prog.underlying 30 = some (.func ([3]).toArray ([29]).toArray false) := by kernel_rfl
theorem z30 : Tryd.prog.sz 30 = some 1 := by kernel_rfl
theorem zr30 : Tryd.prog.zr 30 = some ((([.nilFunc] : List Value)).toArray) := by kernel_rfl
theorem u31 : Tryd.prog.underlying 31 = some (.func ([62]).toArray ([]).toArray false) := by kernel_rfl
theorem z31 : Tryd.prog.sz 31 = some 1 := by kernel_rfl
theorem zr31 : Tryd.prog.zr 31 = some ((([.nilFunc] : List Value)).toArray) := by kernel_rfl
theorem u32 : Tryd.prog.underlying 32 = some (.func ([62]).toArray ([]).toArray false) := by kernel_rfl
theorem z32 : Tryd.prog.sz 32 = some 1 := by kernel_rfl
theorem zr32 : Tryd.prog.zr 32 = some ((([.nilFunc] : List Value)).toArray) := by kernel_rfl
theorem u33 : Tryd.prog.underlying 33 = some (.func ([3, 23, 23]).toArray ([32]).toArray false) := by kernel_rfl
theorem z33 : Tryd.prog.sz 33 = some 1 := by kernel_rfl
theorem zr33 : Tryd.prog.zr 33 = some ((([.nilFunc] : List Value)).toArray) := by kernel_rfl
theorem u34 : Tryd.prog.underlying 34 = some (.func ([23, 23, 23]).toArray ([4]).toArray false) := by kernel_rfl
theorem z34 : Tryd.prog.sz 34 = some 1 := by kernel_rfl
theorem zr34 : Tryd.prog.zr 34 = some ((([.nilFunc] : List Value)).toArray) := by kernel_rfl
theorem u35 : Tryd.prog.underlying 35 = some (.func ([23, 23]).toArray ([4]).toArray false) := by kernel_rfl
theorem z35 : Tryd.prog.sz 35 = some 1 := by kernel_rfl
theorem zr35 : Tryd.prog.zr 35 = some ((([.nilFunc] : List Value)).toArray) := by kernel_rfl
theorem u36 : Tryd.prog.underlying 36 = some (.int .i64) := by kernel_rfl
theorem z36 : Tryd.prog.sz 36 = some 1 := by kernel_rfl
theorem zr36 : Tryd.prog.zr 36 = some ((([.int .i64 0] : List Value)).toArray) := by kernel_rfl
theorem u37 : Tryd.prog.underlying 37 = some (.tuple ([4, 36]).toArray) := by kernel_rfl
theorem z37 : Tryd.prog.sz 37 = some 1 := by kernel_rfl
theorem u38 : Tryd.prog.underlying 38 = some (.func ([23]).toArray ([4, 36]).toArray false) := by kernel_rfl
theorem z38 : Tryd.prog.sz 38 = some 1 := by kernel_rfl
theorem zr38 : Tryd.prog.zr 38 = some ((([.nilFunc] : List Value)).toArray) := by kernel_rfl
theorem u39 : Tryd.prog.underlying 39 = some (.func ([23, 3]).toArray ([23]).toArray false) := by kernel_rfl
theorem z39 : Tryd.prog.sz 39 = some 1 := by kernel_rfl
theorem zr39 : Tryd.prog.zr 39 = some ((([.nilFunc] : List Value)).toArray) := by kernel_rfl
theorem u40 : Tryd.prog.underlying 40 = some (.func ([]).toArray ([3]).toArray false) := by kernel_rfl
theorem z40 : Tryd.prog.sz 40 = some 1 := by kernel_rfl
theorem zr40 : Tryd.prog.zr 40 = some ((([.nilFunc] : List Value)).toArray) := by kernel_rfl
theorem u41 : Tryd.prog.underlying 41 = some (.func ([3, 22, 3, 23, 23]).toArray ([4]).toArray false) := by kernel_rfl
theorem z41 : Tryd.prog.sz 41 = some 1 := by kernel_rfl
theorem zr41 : Tryd.prog.zr 41 = some ((([.nilFunc] : List Value)).toArray) := by kernel_rfl
theorem u42 : Tryd.prog.underlying 42 = some (.tuple ([25, 36]).toArray) := by kernel_rfl
theorem z42 : Tryd.prog.sz 42 = some 1 := by kernel_rfl
theorem u43 : Tryd.prog.underlying 43 = some (.func ([3]).toArray ([25, 36]).toArray false) := by kernel_rfl
theorem z43 : Tryd.prog.sz 43 = some 1 := by kernel_rfl
theorem zr43 : Tryd.prog.zr 43 = some ((([.nilFunc] : List Value)).toArray) := by kernel_rfl
theorem u44 : Tryd.prog.underlying 44 = some (.struct ([{ name := "Rows", type := 29, offset := 0, embedded := false, tag := "", pkgPath := "", byteOffset := 0 }]).toArray) := by kernel_rfl
theorem z44 : Tryd.prog.sz 44 = some 1 := by kernel_rfl
theorem zr44 : Tryd.prog.zr 44 = some ((([.slice none 0 0] : List Value)).toArray) := by kernel_rfl
theorem u45 : Tryd.prog.underlying 45 = some (.struct ([{ name := "Rows", type := 29, offset := 0, embedded := false, tag := "", pkgPath := "", byteOffset := 0 }]).toArray) := by kernel_rfl
theorem z45 : Tryd.prog.sz 45 = some 1 := by kernel_rfl
theorem zr45 : Tryd.prog.zr 45 = some ((([.slice none 0 0] : List Value)).toArray) := by kernel_rfl
theorem u46 : Tryd.prog.underlying 46 = some (.func ([29, 29]).toArray ([4]).toArray false) := by kernel_rfl
theorem z46 : Tryd.prog.sz 46 = some 1 := by kernel_rfl
theorem zr46 : Tryd.prog.zr 46 = some ((([.nilFunc] : List Value)).toArray) := by kernel_rfl
theorem u47 : Tryd.prog.underlying 47 = some (.func ([3, 22, 23]).toArray ([4]).toArray false) := by kernel_rfl
theorem z47 : Tryd.prog.sz 47 = some 1 := by kernel_rfl
theorem zr47 : Tryd.prog.zr 47 = some ((([.nilFunc] : List Value)).toArray) := by kernel_rfl
theorem u48 : Tryd.prog.underlying 48 = some (.slice 91) := by kernel_rfl
theorem z48 : Tryd.prog.sz 48 = some 1 := by kernel_rfl
theorem zr48 : Tryd.prog.zr 48 = some ((([.slice none 0 0] : List Value)).toArray) := by kernel_rfl
theorem u49 : Tryd.prog.underlying 49 = some (.slice 29) := by kernel_rfl
theorem z49 : Tryd.prog.sz 49 = some 1 := by kernel_rfl
theorem zr49 : Tryd.prog.zr 49 = some ((([.slice none 0 0] : List Value)).toArray) := by kernel_rfl
theorem u50 : Tryd.prog.underlying 50 = some (.func ([25]).toArray ([29]).toArray false) := by kernel_rfl
theorem z50 : Tryd.prog.sz 50 = some 1 := by kernel_rfl
theorem zr50 : Tryd.prog.zr 50 = some ((([.nilFunc] : List Value)).toArray) := by kernel_rfl
theorem u51 : Tryd.prog.underlying 51 = some (.func ([29, 3]).toArray ([48]).toArray false) := by kernel_rfl
theorem z51 : Tryd.prog.sz 51 = some 1 := by kernel_rfl
theorem zr51 : Tryd.prog.zr 51 = some ((([.nilFunc] : List Value)).toArray) := by kernel_rfl
theorem u52 : Tryd.prog.underlying 52 = some (.func ([48]).toArray ([4]).toArray false) := by kernel_rfl
theorem z52 : Tryd.prog.sz 52 = some 1 := by kernel_rfl
theorem zr52 : Tryd.prog.zr 52 = some ((([.nilFunc] : List Value)).toArray) := by kernel_rfl
theorem u53 : Tryd.prog.underlying 53 = some (.func ([3, 22, 45]).toArray ([4]).toArray false) := by kernel_rfl
theorem z53 : Tryd.prog.sz 53 = some 1 := by kernel_rfl
theorem zr53 : Tryd.prog.zr 53 = some ((([.nilFunc] : List Value)).toArray) := by kernel_rfl
theorem u54 : Tryd.prog.underlying 54 = some (.func ([29, 23]).toArray ([4]).toArray false) := by kernel_rfl
theorem z54 : Tryd.prog.sz 54 = some 1 := by kernel_rfl
theorem zr54 : Tryd.prog.zr 54 = some ((([.nilFunc] : List Value)).toArray) := by kernel_rfl
theorem u55 : Tryd.prog.underlying 55 = some (.func ([25, 3, 29]).toArray ([4]).toArray false) := by kernel_rfl
theorem z55 : Tryd.prog.sz 55 = some 1 := by kernel_rfl
theorem zr55 : Tryd.prog.zr 55 = some ((([.nilFunc] : List Value)).toArray) := by kernel_rfl
theorem u56 : Tryd.prog.underlying 56 = some (.func ([23]).toArray ([3]).toArray false) := by kernel_rfl
theorem z56 : Tryd.prog.sz 56 = some 1 := by kernel_rfl
theorem zr56 : Tryd.prog.zr 56 = some ((([.nilFunc] : List Value)).toArray) := by kernel_rfl
theorem u57 : Tryd.prog.underlying 57 = some (.func ([29, 29]).toArray ([29]).toArray false) := by kernel_rfl
theorem z57 : Tryd.prog.sz 57 = some 1 := by kernel_rfl
theorem zr57 : Tryd.prog.zr 57 = some ((([.nilFunc] : List Value)).toArray) := by kernel_rfl
theorem u58 : Tryd.prog.underlying 58 = some (.func ([3, 22]).toArray ([4]).toArray false) := by kernel_rfl
theorem z58 : Tryd.prog.sz 58 = some 1 := by kernel_rfl
theorem zr58 : Tryd.prog.zr 58 = some ((([.nilFunc] : List Value)).toArray) := by kernel_rfl
theorem u59 : Tryd.prog.underlying 59 = some (.func ([3, 22, 45, 3]).toArray ([4]).toArray false) := by kernel_rfl
theorem z59 : Tryd.prog.sz 59 = some 1 := by kernel_rfl
theorem zr59 : Tryd.prog.zr 59 = some ((([.nilFunc] : List Value)).toArray) := by kernel_rfl
theorem u60 : Tryd.prog.underlying 60 = some (.tuple ([23, 23, 4]).toArray) := by kernel_rfl
theorem z60 : Tryd.prog.sz 60 = some 1 := by kernel_rfl
theorem u61 : Tryd.prog.underlying 61 = some (.func ([23, 23]).toArray ([23, 23, 4]).toArray false) := by kernel_rfl
theorem z61 : Tryd.prog.sz 61 = some 1 := by kernel_rfl
theorem zr61 : Tryd.prog.zr 61 = some ((([.nilFunc] : List Value)).toArray) := by kernel_rfl
theorem u62 : Tryd.prog.underlying 62 = some (.func ([23]).toArray ([4]).toArray false) := by kernel_rfl
theorem z62 : Tryd.prog.sz 62 = some 1 := by kernel_rfl
theorem zr62 : Tryd.prog.zr 62 = some ((([.nilFunc] : List Value)).toArray) := by kernel_rfl
theorem u63 : Tryd.prog.underlying 63 = some (.slice 70) := by kernel_rfl
theorem z63 : Tryd.prog.sz 63 = some 1 := by kernel_rfl
theorem zr63 : Tryd.prog.zr 63 = some ((([.slice none 0 0] : List Value)).toArray) := by kernel_rfl
theorem u64 : Tryd.prog.underlying 64 = some (.map 9 63) := by kernel_rfl
theorem z64 : Tryd.prog.sz 64 = some 1 := by kernel_rfl
theorem zr64 : Tryd.prog.zr 64 = some ((([.map none] : List Value)).toArray) := by kernel_rfl
theorem u65 : Tryd.prog.underlying 65 = some (.struct ([{ name := "cols", type := 23, offset := 0, embedded := false, tag := "", pkgPath := "hearsay/rel", byteOffset := 0 }, { name := "rows", type := 64, offset := 1, embedded := false, tag := "", pkgPath := "hearsay/rel", byteOffset := 24 }]).toArray) := by kernel_rfl
theorem z65 : Tryd.prog.sz 65 = some 2 := by kernel_rfl
theorem zr65 : Tryd.prog.zr 65 = some ((([.slice none 0 0, .map none] : List Value)).toArray) := by kernel_rfl
theorem u66 : Tryd.prog.underlying 66 = some (.struct ([{ name := "cols", type := 23, offset := 0, embedded := false, tag := "", pkgPath := "hearsay/rel", byteOffset := 0 }, { name := "rows", type := 64, offset := 1, embedded := false, tag := "", pkgPath := "hearsay/rel", byteOffset := 24 }]).toArray) := by kernel_rfl
theorem z66 : Tryd.prog.sz 66 = some 2 := by kernel_rfl
theorem zr66 : Tryd.prog.zr 66 = some ((([.slice none 0 0, .map none] : List Value)).toArray) := by kernel_rfl
theorem u67 : Tryd.prog.underlying 67 = some (.pointer 66) := by kernel_rfl
theorem z67 : Tryd.prog.sz 67 = some 1 := by kernel_rfl
theorem zr67 : Tryd.prog.zr 67 = some ((([.pointer none] : List Value)).toArray) := by kernel_rfl
theorem u68 : Tryd.prog.underlying 68 = some (.func ([23]).toArray ([67]).toArray false) := by kernel_rfl
theorem z68 : Tryd.prog.sz 68 = some 1 := by kernel_rfl
theorem zr68 : Tryd.prog.zr 68 = some ((([.nilFunc] : List Value)).toArray) := by kernel_rfl
theorem u69 : Tryd.prog.underlying 69 = some (.func ([23]).toArray ([9]).toArray false) := by kernel_rfl
theorem z69 : Tryd.prog.sz 69 = some 1 := by kernel_rfl
theorem zr69 : Tryd.prog.zr 69 = some ((([.nilFunc] : List Value)).toArray) := by kernel_rfl
theorem u70 : Tryd.prog.underlying 70 = some (.pointer 72) := by kernel_rfl
theorem z70 : Tryd.prog.sz 70 = some 1 := by kernel_rfl
theorem zr70 : Tryd.prog.zr 70 = some ((([.pointer none] : List Value)).toArray) := by kernel_rfl
theorem u71 : Tryd.prog.underlying 71 = some (.struct ([{ name := "row", type := 23, offset := 0, embedded := false, tag := "", pkgPath := "hearsay/rel", byteOffset := 0 }, { name := "part", type := 3, offset := 1, embedded := false, tag := "", pkgPath := "hearsay/rel", byteOffset := 24 }]).toArray) := by kernel_rfl
theorem z71 : Tryd.prog.sz 71 = some 2 := by kernel_rfl
theorem zr71 : Tryd.prog.zr 71 = some ((([.slice none 0 0, .int .i64 0] : List Value)).toArray) := by kernel_rfl
theorem u72 : Tryd.prog.underlying 72 = some (.struct ([{ name := "row", type := 23, offset := 0, embedded := false, tag := "", pkgPath := "hearsay/rel", byteOffset := 0 }, { name := "part", type := 3, offset := 1, embedded := false, tag := "", pkgPath := "hearsay/rel", byteOffset := 24 }]).toArray) := by kernel_rfl
theorem z72 : Tryd.prog.sz 72 = some 2 := by kernel_rfl
theorem zr72 : Tryd.prog.zr 72 = some ((([.slice none 0 0, .int .i64 0] : List Value)).toArray) := by kernel_rfl
theorem u73 : Tryd.prog.underlying 73 = some (.func ([29, 74]).toArray ([]).toArray false) := by kernel_rfl
theorem z73 : Tryd.prog.sz 73 = some 1 := by kernel_rfl
theorem zr73 : Tryd.prog.zr 73 = some ((([.nilFunc] : List Value)).toArray) := by kernel_rfl
theorem u74 : Tryd.prog.underlying 74 = some (.func ([23, 23]).toArray ([3]).toArray false) := by kernel_rfl
theorem z74 : Tryd.prog.sz 74 = some 1 := by kernel_rfl
theorem zr74 : Tryd.prog.zr 74 = some ((([.nilFunc] : List Value)).toArray) := by kernel_rfl
theorem u75 : Tryd.prog.underlying 75 = some (.func ([23]).toArray ([23]).toArray false) := by kernel_rfl
theorem z75 : Tryd.prog.sz 75 = some 1 := by kernel_rfl
theorem zr75 : Tryd.prog.zr 75 = some ((([.nilFunc] : List Value)).toArray) := by kernel_rfl
theorem u76 : Tryd.prog.underlying 76 = some (.map 9 70) := by kernel_rfl
theorem z76 : Tryd.prog.sz 76 = some 1 := by kernel_rfl
theorem zr76 : Tryd.prog.zr 76 = some ((([.map none] : List Value)).toArray) := by kernel_rfl
theorem u77 : Tryd.prog.underlying 77 = some (.array 8 3) := by kernel_rfl
theorem z77 : Tryd.prog.sz 77 = some 8 := by kernel_rfl
theorem zr77 : Tryd.prog.zr 77 = some ((([.int .i64 0, .int .i64 0, .int .i64 0, .int .i64 0, .int .i64 0, .int .i64 0, .int .i64 0, .int .i64 0] : List Value)).toArray) := by kernel_rfl
theorem u78 : Tryd.prog.underlying 78 = some (.map 9 67) := by kernel_rfl
theorem z78 : Tryd.prog.sz 78 = some 1 := by kernel_rfl
theorem zr78 : Tryd.prog.zr 78 = some ((([.map none] : List Value)).toArray) := by kernel_rfl
theorem u79 : Tryd.prog.underlying 79 = some (.struct ([]).toArray) := by kernel_rfl
theorem z79 : Tryd.prog.sz 79 = some 0 := by kernel_rfl
theorem zr79 : Tryd.prog.zr 79 = some ((([] : List Value)).toArray) := by kernel_rfl
theorem u80 : Tryd.prog.underlying 80 = some (.struct ([]).toArray) := by kernel_rfl
theorem z80 : Tryd.prog.sz 80 = some 0 := by kernel_rfl
theorem zr80 : Tryd.prog.zr 80 = some ((([] : List Value)).toArray) := by kernel_rfl
theorem u81 : Tryd.prog.underlying 81 = some (.int .u32) := by kernel_rfl
theorem z81 : Tryd.prog.sz 81 = some 1 := by kernel_rfl
theorem zr81 : Tryd.prog.zr 81 = some ((([.int .u32 0] : List Value)).toArray) := by kernel_rfl
theorem u82 : Tryd.prog.underlying 82 = some (.struct ([{ name := "state", type := 21, offset := 0, embedded := false, tag := "", pkgPath := "internal/sync", byteOffset := 0 }, { name := "sema", type := 81, offset := 1, embedded := false, tag := "", pkgPath := "internal/sync", byteOffset := 4 }]).toArray) := by kernel_rfl
theorem z82 : Tryd.prog.sz 82 = some 2 := by kernel_rfl
theorem zr82 : Tryd.prog.zr 82 = some ((([.int .i32 0, .int .u32 0] : List Value)).toArray) := by kernel_rfl
theorem u83 : Tryd.prog.underlying 83 = some (.struct ([{ name := "state", type := 21, offset := 0, embedded := false, tag := "", pkgPath := "internal/sync", byteOffset := 0 }, { name := "sema", type := 81, offset := 1, embedded := false, tag := "", pkgPath := "internal/sync", byteOffset := 4 }]).toArray) := by kernel_rfl
theorem z83 : Tryd.prog.sz 83 = some 2 := by kernel_rfl
theorem zr83 : Tryd.prog.zr 83 = some ((([.int .i32 0, .int .u32 0] : List Value)).toArray) := by kernel_rfl
theorem u84 : Tryd.prog.underlying 84 = some (.struct ([{ name := "_", type := 80, offset := 0, embedded := false, tag := "", pkgPath := "sync", byteOffset := 0 }, { name := "mu", type := 83, offset := 0, embedded := false, tag := "", pkgPath := "sync", byteOffset := 0 }]).toArray) := by kernel_rfl
theorem z84 : Tryd.prog.sz 84 = some 2 := by kernel_rfl
theorem zr84 : Tryd.prog.zr 84 = some ((([.int .i32 0, .int .u32 0] : List Value)).toArray) := by kernel_rfl
theorem u85 : Tryd.prog.underlying 85 = some (.struct ([{ name := "_", type := 80, offset := 0, embedded := false, tag := "", pkgPath := "sync", byteOffset := 0 }, { name := "mu", type := 83, offset := 0, embedded := false, tag := "", pkgPath := "sync", byteOffset := 0 }]).toArray) := by kernel_rfl
theorem z85 : Tryd.prog.sz 85 = some 2 := by kernel_rfl
theorem zr85 : Tryd.prog.zr 85 = some ((([.int .i32 0, .int .u32 0] : List Value)).toArray) := by kernel_rfl
theorem u86 : Tryd.prog.underlying 86 = some (.struct ([{ name := "width", type := 3, offset := 0, embedded := false, tag := "", pkgPath := "hearsay/rel", byteOffset := 0 }, { name := "rows", type := 76, offset := 1, embedded := false, tag := "", pkgPath := "hearsay/rel", byteOffset := 8 }, { name := "fresh", type := 63, offset := 2, embedded := false, tag := "", pkgPath := "hearsay/rel", byteOffset := 16 }, { name := "next", type := 63, offset := 3, embedded := false, tag := "", pkgPath := "hearsay/rel", byteOffset := 40 }, { name := "count", type := 77, offset := 4, embedded := false, tag := "", pkgPath := "hearsay/rel", byteOffset := 64 }, { name := "indexes", type := 78, offset := 12, embedded := false, tag := "", pkgPath := "hearsay/rel", byteOffset := 128 }, { name := "making", type := 85, offset := 13, embedded := false, tag := "", pkgPath := "hearsay/rel", byteOffset := 136 }]).toArray) := by kernel_rfl
theorem z86 : Tryd.prog.sz 86 = some 15 := by kernel_rfl
theorem zr86 : Tryd.prog.zr 86 = some ((([.int .i64 0, .map none, .slice none 0 0, .slice none 0 0, .int .i64 0, .int .i64 0, .int .i64 0, .int .i64 0, .int .i64 0, .int .i64 0, .int .i64 0, .int .i64 0, .map none, .int .i32 0, .int .u32 0] : List Value)).toArray) := by kernel_rfl
theorem u87 : Tryd.prog.underlying 87 = some (.struct ([{ name := "width", type := 3, offset := 0, embedded := false, tag := "", pkgPath := "hearsay/rel", byteOffset := 0 }, { name := "rows", type := 76, offset := 1, embedded := false, tag := "", pkgPath := "hearsay/rel", byteOffset := 8 }, { name := "fresh", type := 63, offset := 2, embedded := false, tag := "", pkgPath := "hearsay/rel", byteOffset := 16 }, { name := "next", type := 63, offset := 3, embedded := false, tag := "", pkgPath := "hearsay/rel", byteOffset := 40 }, { name := "count", type := 77, offset := 4, embedded := false, tag := "", pkgPath := "hearsay/rel", byteOffset := 64 }, { name := "indexes", type := 78, offset := 12, embedded := false, tag := "", pkgPath := "hearsay/rel", byteOffset := 128 }, { name := "making", type := 85, offset := 13, embedded := false, tag := "", pkgPath := "hearsay/rel", byteOffset := 136 }]).toArray) := by kernel_rfl
theorem z87 : Tryd.prog.sz 87 = some 15 := by kernel_rfl
theorem zr87 : Tryd.prog.zr 87 = some ((([.int .i64 0, .map none, .slice none 0 0, .slice none 0 0, .int .i64 0, .int .i64 0, .int .i64 0, .int .i64 0, .int .i64 0, .int .i64 0, .int .i64 0, .int .i64 0, .map none, .int .i32 0, .int .u32 0] : List Value)).toArray) := by kernel_rfl
theorem u88 : Tryd.prog.underlying 88 = some (.func ([70]).toArray ([]).toArray false) := by kernel_rfl
theorem z88 : Tryd.prog.sz 88 = some 1 := by kernel_rfl
theorem zr88 : Tryd.prog.zr 88 = some ((([.nilFunc] : List Value)).toArray) := by kernel_rfl
theorem u89 : Tryd.prog.underlying 89 = some (.func ([63, 3]).toArray ([]).toArray false) := by kernel_rfl
theorem z89 : Tryd.prog.sz 89 = some 1 := by kernel_rfl
theorem zr89 : Tryd.prog.zr 89 = some ((([.nilFunc] : List Value)).toArray) := by kernel_rfl
theorem u90 : Tryd.prog.underlying 90 = some (.struct ([{ name := "L", type := 23, offset := 0, embedded := false, tag := "", pkgPath := "", byteOffset := 0 }, { name := "G", type := 23, offset := 1, embedded := false, tag := "", pkgPath := "", byteOffset := 24 }, { name := "M", type := 3, offset := 2, embedded := false, tag := "", pkgPath := "", byteOffset := 48 }]).toArray) := by kernel_rfl
theorem z90 : Tryd.prog.sz 90 = some 3 := by kernel_rfl
theorem zr90 : Tryd.prog.zr 90 = some ((([.slice none 0 0, .slice none 0 0, .int .i64 0] : List Value)).toArray) := by kernel_rfl
theorem u91 : Tryd.prog.underlying 91 = some (.struct ([{ name := "L", type := 23, offset := 0, embedded := false, tag := "", pkgPath := "", byteOffset := 0 }, { name := "G", type := 23, offset := 1, embedded := false, tag := "", pkgPath := "", byteOffset := 24 }, { name := "M", type := 3, offset := 2, embedded := false, tag := "", pkgPath := "", byteOffset := 48 }]).toArray) := by kernel_rfl
theorem z91 : Tryd.prog.sz 91 = some 3 := by kernel_rfl
theorem zr91 : Tryd.prog.zr 91 = some ((([.slice none 0 0, .slice none 0 0, .int .i64 0] : List Value)).toArray) := by kernel_rfl
theorem u92 : Tryd.prog.underlying 92 = some (.func ([29]).toArray ([4]).toArray false) := by kernel_rfl
theorem z92 : Tryd.prog.sz 92 = some 1 := by kernel_rfl
theorem zr92 : Tryd.prog.zr 92 = some ((([.nilFunc] : List Value)).toArray) := by kernel_rfl
theorem u93 : Tryd.prog.underlying 93 = some (.map 3 3) := by kernel_rfl
theorem z93 : Tryd.prog.sz 93 = some 1 := by kernel_rfl
theorem zr93 : Tryd.prog.zr 93 = some ((([.map none] : List Value)).toArray) := by kernel_rfl
theorem u94 : Tryd.prog.underlying 94 = some (.tuple ([3, 4]).toArray) := by kernel_rfl
theorem z94 : Tryd.prog.sz 94 = some 1 := by kernel_rfl
theorem u95 : Tryd.prog.underlying 95 = some (.func ([23]).toArray ([]).toArray false) := by kernel_rfl
theorem z95 : Tryd.prog.sz 95 = some 1 := by kernel_rfl
theorem zr95 : Tryd.prog.zr 95 = some ((([.nilFunc] : List Value)).toArray) := by kernel_rfl
theorem u96 : Tryd.prog.underlying 96 = some (.func ([29, 3, 3, 3, 74]).toArray ([]).toArray false) := by kernel_rfl
theorem z96 : Tryd.prog.sz 96 = some 1 := by kernel_rfl
theorem zr96 : Tryd.prog.zr 96 = some ((([.nilFunc] : List Value)).toArray) := by kernel_rfl
theorem u97 : Tryd.prog.underlying 97 = some (.func ([98]).toArray ([3]).toArray false) := by kernel_rfl
theorem z97 : Tryd.prog.sz 97 = some 1 := by kernel_rfl
theorem zr97 : Tryd.prog.zr 97 = some ((([.nilFunc] : List Value)).toArray) := by kernel_rfl
theorem u98 : Tryd.prog.underlying 98 = some (.int .u64) := by kernel_rfl
theorem z98 : Tryd.prog.sz 98 = some 1 := by kernel_rfl
theorem zr98 : Tryd.prog.zr 98 = some ((([.int .u64 0] : List Value)).toArray) := by kernel_rfl
theorem u99 : Tryd.prog.underlying 99 = some (.func ([3, 3]).toArray ([3]).toArray false) := by kernel_rfl
theorem z99 : Tryd.prog.sz 99 = some 1 := by kernel_rfl
theorem zr99 : Tryd.prog.zr 99 = some ((([.nilFunc] : List Value)).toArray) := by kernel_rfl
theorem u100 : Tryd.prog.underlying 100 = some (.slice 5) := by kernel_rfl
theorem z100 : Tryd.prog.sz 100 = some 1 := by kernel_rfl
theorem zr100 : Tryd.prog.zr 100 = some ((([.slice none 0 0] : List Value)).toArray) := by kernel_rfl
theorem u101 : Tryd.prog.underlying 101 = some (.func ([100, 2, 3]).toArray ([100]).toArray false) := by kernel_rfl
theorem z101 : Tryd.prog.sz 101 = some 1 := by kernel_rfl
theorem zr101 : Tryd.prog.zr 101 = some ((([.nilFunc] : List Value)).toArray) := by kernel_rfl
theorem u102 : Tryd.prog.underlying 102 = some (.func ([23, 23]).toArray ([23]).toArray false) := by kernel_rfl
theorem z102 : Tryd.prog.sz 102 = some 1 := by kernel_rfl
theorem zr102 : Tryd.prog.zr 102 = some ((([.nilFunc] : List Value)).toArray) := by kernel_rfl
theorem u103 : Tryd.prog.underlying 103 = some (.func ([23, 3, 3, 3]).toArray ([]).toArray false) := by kernel_rfl
theorem z103 : Tryd.prog.sz 103 = some 1 := by kernel_rfl
theorem zr103 : Tryd.prog.zr 103 = some ((([.nilFunc] : List Value)).toArray) := by kernel_rfl
theorem u104 : Tryd.prog.underlying 104 = some (.pointer 85) := by kernel_rfl
theorem z104 : Tryd.prog.sz 104 = some 1 := by kernel_rfl
theorem zr104 : Tryd.prog.zr 104 = some ((([.pointer none] : List Value)).toArray) := by kernel_rfl
theorem u105 : Tryd.prog.underlying 105 = some (.func ([29, 3, 3, 74]).toArray ([]).toArray false) := by kernel_rfl
theorem z105 : Tryd.prog.sz 105 = some 1 := by kernel_rfl
theorem zr105 : Tryd.prog.zr 105 = some ((([.nilFunc] : List Value)).toArray) := by kernel_rfl
theorem u106 : Tryd.prog.underlying 106 = some (.int .i64) := by kernel_rfl
theorem z106 : Tryd.prog.sz 106 = some 1 := by kernel_rfl
theorem zr106 : Tryd.prog.zr 106 = some ((([.int .i64 0] : List Value)).toArray) := by kernel_rfl
theorem u107 : Tryd.prog.underlying 107 = some (.tuple ([3, 106]).toArray) := by kernel_rfl
theorem z107 : Tryd.prog.sz 107 = some 1 := by kernel_rfl
theorem u108 : Tryd.prog.underlying 108 = some (.func ([29, 3, 3, 74]).toArray ([3, 106]).toArray false) := by kernel_rfl
theorem z108 : Tryd.prog.sz 108 = some 1 := by kernel_rfl
theorem zr108 : Tryd.prog.zr 108 = some ((([.nilFunc] : List Value)).toArray) := by kernel_rfl
theorem u109 : Tryd.prog.underlying 109 = some (.func ([29, 3, 3, 74]).toArray ([4]).toArray false) := by kernel_rfl
theorem z109 : Tryd.prog.sz 109 = some 1 := by kernel_rfl
theorem zr109 : Tryd.prog.zr 109 = some ((([.nilFunc] : List Value)).toArray) := by kernel_rfl
theorem u110 : Tryd.prog.underlying 110 = some (.func ([29, 3, 3, 3, 74]).toArray ([3]).toArray false) := by kernel_rfl
theorem z110 : Tryd.prog.sz 110 = some 1 := by kernel_rfl
theorem zr110 : Tryd.prog.zr 110 = some ((([.nilFunc] : List Value)).toArray) := by kernel_rfl
theorem u111 : Tryd.prog.underlying 111 = some (.func ([29, 3, 3, 3, 74]).toArray ([3, 4]).toArray false) := by kernel_rfl
theorem z111 : Tryd.prog.sz 111 = some 1 := by kernel_rfl
theorem zr111 : Tryd.prog.zr 111 = some ((([.nilFunc] : List Value)).toArray) := by kernel_rfl
theorem u112 : Tryd.prog.underlying 112 = some (.func ([81]).toArray ([3]).toArray false) := by kernel_rfl
theorem z112 : Tryd.prog.sz 112 = some 1 := by kernel_rfl
theorem zr112 : Tryd.prog.zr 112 = some ((([.nilFunc] : List Value)).toArray) := by kernel_rfl
theorem u113 : Tryd.prog.underlying 113 = some (.func ([114]).toArray ([3]).toArray false) := by kernel_rfl
theorem z113 : Tryd.prog.sz 113 = some 1 := by kernel_rfl
theorem zr113 : Tryd.prog.zr 113 = some ((([.nilFunc] : List Value)).toArray) := by kernel_rfl
theorem u114 : Tryd.prog.underlying 114 = some (.int .u64) := by kernel_rfl
theorem z114 : Tryd.prog.sz 114 = some 1 := by kernel_rfl
theorem zr114 : Tryd.prog.zr 114 = some ((([.int .u64 0] : List Value)).toArray) := by kernel_rfl
theorem u115 : Tryd.prog.underlying 115 = some (.func ([3]).toArray ([4]).toArray false) := by kernel_rfl
theorem z115 : Tryd.prog.sz 115 = some 1 := by kernel_rfl
theorem zr115 : Tryd.prog.zr 115 = some ((([.nilFunc] : List Value)).toArray) := by kernel_rfl
theorem u116 : Tryd.prog.underlying 116 = some (.func ([23, 3, 3]).toArray ([]).toArray false) := by kernel_rfl
theorem z116 : Tryd.prog.sz 116 = some 1 := by kernel_rfl
theorem zr116 : Tryd.prog.zr 116 = some ((([.nilFunc] : List Value)).toArray) := by kernel_rfl
theorem u117 : Tryd.prog.underlying 117 = some (.func ([23, 3, 3]).toArray ([3, 106]).toArray false) := by kernel_rfl
theorem z117 : Tryd.prog.sz 117 = some 1 := by kernel_rfl
theorem zr117 : Tryd.prog.zr 117 = some ((([.nilFunc] : List Value)).toArray) := by kernel_rfl
theorem u118 : Tryd.prog.underlying 118 = some (.func ([23, 3, 3]).toArray ([4]).toArray false) := by kernel_rfl
theorem z118 : Tryd.prog.sz 118 = some 1 := by kernel_rfl
theorem zr118 : Tryd.prog.zr 118 = some ((([.nilFunc] : List Value)).toArray) := by kernel_rfl
theorem u119 : Tryd.prog.underlying 119 = some (.func ([3, 3]).toArray ([4]).toArray false) := by kernel_rfl
theorem z119 : Tryd.prog.sz 119 = some 1 := by kernel_rfl
theorem zr119 : Tryd.prog.zr 119 = some ((([.nilFunc] : List Value)).toArray) := by kernel_rfl
theorem u120 : Tryd.prog.underlying 120 = some (.func ([23, 3, 3, 3]).toArray ([3]).toArray false) := by kernel_rfl
theorem z120 : Tryd.prog.sz 120 = some 1 := by kernel_rfl
theorem zr120 : Tryd.prog.zr 120 = some ((([.nilFunc] : List Value)).toArray) := by kernel_rfl
theorem u121 : Tryd.prog.underlying 121 = some (.func ([23, 3, 3, 3]).toArray ([3, 4]).toArray false) := by kernel_rfl
theorem z121 : Tryd.prog.sz 121 = some 1 := by kernel_rfl
theorem zr121 : Tryd.prog.zr 121 = some ((([.nilFunc] : List Value)).toArray) := by kernel_rfl
theorem u122 : Tryd.prog.underlying 122 = some (.pointer 83) := by kernel_rfl
theorem z122 : Tryd.prog.sz 122 = some 1 := by kernel_rfl
theorem zr122 : Tryd.prog.zr 122 = some ((([.pointer none] : List Value)).toArray) := by kernel_rfl
theorem u123 : Tryd.prog.underlying 123 = some (.func ([124, 21, 21]).toArray ([4]).toArray false) := by kernel_rfl
theorem z123 : Tryd.prog.sz 123 = some 1 := by kernel_rfl
theorem zr123 : Tryd.prog.zr 123 = some ((([.nilFunc] : List Value)).toArray) := by kernel_rfl
theorem u124 : Tryd.prog.underlying 124 = some (.pointer 21) := by kernel_rfl
theorem z124 : Tryd.prog.sz 124 = some 1 := by kernel_rfl
theorem zr124 : Tryd.prog.zr 124 = some ((([.pointer none] : List Value)).toArray) := by kernel_rfl
theorem u125 : Tryd.prog.underlying 125 = some (.func ([126]).toArray ([]).toArray false) := by kernel_rfl
theorem z125 : Tryd.prog.sz 125 = some 1 := by kernel_rfl
theorem zr125 : Tryd.prog.zr 125 = some ((([.nilFunc] : List Value)).toArray) := by kernel_rfl
theorem u126 : Tryd.prog.underlying 126 = some .unsafePointer := by kernel_rfl
theorem z126 : Tryd.prog.sz 126 = some 1 := by kernel_rfl
theorem zr126 : Tryd.prog.zr 126 = some ((([.pointer none] : List Value)).toArray) := by kernel_rfl
theorem u127 : Tryd.prog.underlying 127 = some (.func ([124, 21]).toArray ([21]).toArray false) := by kernel_rfl
theorem z127 : Tryd.prog.sz 127 = some 1 := by kernel_rfl
theorem zr127 : Tryd.prog.zr 127 = some ((([.nilFunc] : List Value)).toArray) := by kernel_rfl
theorem u128 : Tryd.prog.underlying 128 = some (.func ([21]).toArray ([]).toArray false) := by kernel_rfl
theorem z128 : Tryd.prog.sz 128 = some 1 := by kernel_rfl
theorem zr128 : Tryd.prog.zr 128 = some ((([.nilFunc] : List Value)).toArray) := by kernel_rfl
theorem u129 : Tryd.prog.underlying 129 = some (.int .u64) := by kernel_rfl
theorem z129 : Tryd.prog.sz 129 = some 1 := by kernel_rfl
theorem zr129 : Tryd.prog.zr 129 = some ((([.int .u64 0] : List Value)).toArray) := by kernel_rfl
theorem u130 : Tryd.prog.underlying 130 = some (.func ([3]).toArray ([98]).toArray false) := by kernel_rfl
theorem z130 : Tryd.prog.sz 130 = some 1 := by kernel_rfl
theorem zr130 : Tryd.prog.zr 130 = some ((([.nilFunc] : List Value)).toArray) := by kernel_rfl
theorem u131 : Tryd.prog.underlying 131 = some (.func ([]).toArray ([114]).toArray false) := by kernel_rfl
theorem z131 : Tryd.prog.sz 131 = some 1 := by kernel_rfl
theorem zr131 : Tryd.prog.zr 131 = some ((([.nilFunc] : List Value)).toArray) := by kernel_rfl
theorem u132 : Tryd.prog.underlying 132 = some (.func ([29, 3, 133, 74]).toArray ([3]).toArray false) := by kernel_rfl
theorem z132 : Tryd.prog.sz 132 = some 1 := by kernel_rfl
theorem zr132 : Tryd.prog.zr 132 = some ((([.nilFunc] : List Value)).toArray) := by kernel_rfl
theorem u133 : Tryd.prog.underlying 133 = some (.pointer 3) := by kernel_rfl
theorem z133 : Tryd.prog.sz 133 = some 1 := by kernel_rfl
theorem zr133 : Tryd.prog.zr 133 = some ((([.pointer none] : List Value)).toArray) := by kernel_rfl
theorem u134 : Tryd.prog.underlying 134 = some (.func ([29, 3, 3, 3, 133, 74]).toArray ([3]).toArray false) := by kernel_rfl
theorem z134 : Tryd.prog.sz 134 = some 1 := by kernel_rfl
theorem zr134 : Tryd.prog.zr 134 = some ((([.nilFunc] : List Value)).toArray) := by kernel_rfl
theorem u135 : Tryd.prog.underlying 135 = some (.func ([100, 114, 3]).toArray ([100]).toArray false) := by kernel_rfl
theorem z135 : Tryd.prog.sz 135 = some 1 := by kernel_rfl
theorem zr135 : Tryd.prog.zr 135 = some ((([.nilFunc] : List Value)).toArray) := by kernel_rfl
theorem u136 : Tryd.prog.underlying 136 = some (.func ([23, 3, 133]).toArray ([3]).toArray false) := by kernel_rfl
theorem z136 : Tryd.prog.sz 136 = some 1 := by kernel_rfl
theorem zr136 : Tryd.prog.zr 136 = some ((([.nilFunc] : List Value)).toArray) := by kernel_rfl
theorem u137 : Tryd.prog.underlying 137 = some (.func ([23, 3, 3, 3, 133]).toArray ([3]).toArray false) := by kernel_rfl
theorem z137 : Tryd.prog.sz 137 = some 1 := by kernel_rfl
theorem zr137 : Tryd.prog.zr 137 = some ((([.nilFunc] : List Value)).toArray) := by kernel_rfl
theorem u138 : Tryd.prog.underlying 138 = some (.func ([9]).toArray ([]).toArray false) := by kernel_rfl
theorem z138 : Tryd.prog.sz 138 = some 1 := by kernel_rfl
theorem zr138 : Tryd.prog.zr 138 = some ((([.nilFunc] : List Value)).toArray) := by kernel_rfl
theorem u139 : Tryd.prog.underlying 139 = some (.func ([]).toArray ([2]).toArray false) := by kernel_rfl
theorem z139 : Tryd.prog.sz 139 = some 1 := by kernel_rfl
theorem zr139 : Tryd.prog.zr 139 = some ((([.nilFunc] : List Value)).toArray) := by kernel_rfl
theorem u140 : Tryd.prog.underlying 140 = some (.func ([141, 4, 3]).toArray ([]).toArray false) := by kernel_rfl
theorem z140 : Tryd.prog.sz 140 = some 1 := by kernel_rfl
theorem zr140 : Tryd.prog.zr 140 = some ((([.nilFunc] : List Value)).toArray) := by kernel_rfl
theorem u141 : Tryd.prog.underlying 141 = some (.pointer 81) := by kernel_rfl
theorem z141 : Tryd.prog.sz 141 = some 1 := by kernel_rfl
theorem zr141 : Tryd.prog.zr 141 = some ((([.pointer none] : List Value)).toArray) := by kernel_rfl
theorem u142 : Tryd.prog.underlying 142 = some (.pointer 129) := by kernel_rfl
theorem z142 : Tryd.prog.sz 142 = some 1 := by kernel_rfl
theorem zr142 : Tryd.prog.zr 142 = some ((([.pointer none] : List Value)).toArray) := by kernel_rfl
theorem u143 : Tryd.prog.underlying 143 = some (.tuple ([3, 3]).toArray) := by kernel_rfl
theorem z143 : Tryd.prog.sz 143 = some 1 := by kernel_rfl
theorem u144 : Tryd.prog.underlying 144 = some (.func ([29, 3, 3, 133, 74]).toArray ([3, 3]).toArray false) := by kernel_rfl
theorem z144 : Tryd.prog.sz 144 = some 1 := by kernel_rfl
theorem zr144 : Tryd.prog.zr 144 = some ((([.nilFunc] : List Value)).toArray) := by kernel_rfl
theorem u145 : Tryd.prog.underlying 145 = some (.func ([3]).toArray ([9]).toArray false) := by kernel_rfl
theorem z145 : Tryd.prog.sz 145 = some 1 := by kernel_rfl
theorem zr145 : Tryd.prog.zr 145 = some ((([.nilFunc] : List Value)).toArray) := by kernel_rfl
theorem u146 : Tryd.prog.underlying 146 = some (.array 24 5) := by kernel_rfl
theorem z146 : Tryd.prog.sz 146 = some 24 := by kernel_rfl
theorem zr146 : Tryd.prog.zr 146 = some ((u8s (List.replicate 24 0)).toArray) := by kernel_rfl
theorem u147 : Tryd.prog.underlying 147 = some (.func ([100, 114]).toArray ([]).toArray false) := by kernel_rfl
theorem z147 : Tryd.prog.sz 147 = some 1 := by kernel_rfl
theorem zr147 : Tryd.prog.zr 147 = some ((([.nilFunc] : List Value)).toArray) := by kernel_rfl
theorem u148 : Tryd.prog.underlying 148 = some (.tuple ([100, 9]).toArray) := by kernel_rfl
theorem z148 : Tryd.prog.sz 148 = some 1 := by kernel_rfl
theorem u149 : Tryd.prog.underlying 149 = some (.func ([100, 114, 3, 4, 4]).toArray ([100, 9]).toArray false) := by kernel_rfl
theorem z149 : Tryd.prog.sz 149 = some 1 := by kernel_rfl
theorem zr149 : Tryd.prog.zr 149 = some ((([.nilFunc] : List Value)).toArray) := by kernel_rfl
theorem u150 : Tryd.prog.underlying 150 = some (.func ([23, 3, 3, 133]).toArray ([3, 3]).toArray false) := by kernel_rfl
theorem z150 : Tryd.prog.sz 150 = some 1 := by kernel_rfl
theorem zr150 : Tryd.prog.zr 150 = some ((([.nilFunc] : List Value)).toArray) := by kernel_rfl
theorem u151 : Tryd.prog.underlying 151 = some (.func ([4]).toArray ([3]).toArray false) := by kernel_rfl
theorem z151 : Tryd.prog.sz 151 = some 1 := by kernel_rfl
theorem zr151 : Tryd.prog.zr 151 = some ((([.nilFunc] : List Value)).toArray) := by kernel_rfl
theorem u152 : Tryd.prog.underlying 152 = some (.array 20 114) := by kernel_rfl
theorem z152 : Tryd.prog.sz 152 = some 20 := by kernel_rfl
theorem zr152 : Tryd.prog.zr 152 = some ((List.replicate 20 (.int .u64 0)).toArray) := by kernel_rfl
theorem u153 : Tryd.prog.underlying 153 = some (.array 65 5) := by kernel_rfl
theorem z153 : Tryd.prog.sz 153 = some 65 := by kernel_rfl
theorem zr153 : Tryd.prog.zr 153 = some ((u8s (List.replicate 65 0)).toArray) := by kernel_rfl
theorem u154 : Tryd.prog.underlying 154 = some (.array 32 5) := by kernel_rfl
theorem z154 : Tryd.prog.sz 154 = some 32 := by kernel_rfl
theorem zr154 : Tryd.prog.zr 154 = some ((u8s (List.replicate 32 0)).toArray) := by kernel_rfl
theorem u155 : Tryd.prog.underlying 155 = some (.array 64 5) := by kernel_rfl
theorem z155 : Tryd.prog.sz 155 = some 64 := by kernel_rfl
theorem zr155 : Tryd.prog.zr 155 = some ((u8s (List.replicate 64 0)).toArray) := by kernel_rfl
theorem u156 : Tryd.prog.underlying 156 = some (.func ([]).toArray ([9]).toArray false) := by kernel_rfl
theorem z156 : Tryd.prog.sz 156 = some 1 := by kernel_rfl
theorem zr156 : Tryd.prog.zr 156 = some ((([.nilFunc] : List Value)).toArray) := by kernel_rfl
theorem u157 : Tryd.prog.underlying 157 = some (.struct ([{ name := "_interface", type := 17, offset := 0, embedded := false, tag := "", pkgPath := "runtime", byteOffset := 0 }, { name := "concrete", type := 17, offset := 1, embedded := false, tag := "", pkgPath := "runtime", byteOffset := 8 }, { name := "asserted", type := 17, offset := 2, embedded := false, tag := "", pkgPath := "runtime", byteOffset := 16 }, { name := "missingMethod", type := 9, offset := 3, embedded := false, tag := "", pkgPath := "runtime", byteOffset := 24 }]).toArray) := by kernel_rfl
theorem z157 : Tryd.prog.sz 157 = some 4 := by kernel_rfl
theorem zr157 : Tryd.prog.zr 157 = some ((([.pointer none, .pointer none, .pointer none, .string ⟨#[]⟩] : List Value)).toArray) := by kernel_rfl
theorem u158 : Tryd.prog.underlying 158 = some (.struct ([{ name := "_interface", type := 17, offset := 0, embedded := false, tag := "", pkgPath := "runtime", byteOffset := 0 }, { name := "concrete", type := 17, offset := 1, embedded := false, tag := "", pkgPath := "runtime", byteOffset := 8 }, { name := "asserted", type := 17, offset := 2, embedded := false, tag := "", pkgPath := "runtime", byteOffset := 16 }, { name := "missingMethod", type := 9, offset := 3, embedded := false, tag := "", pkgPath := "runtime", byteOffset := 24 }]).toArray) := by kernel_rfl
theorem z158 : Tryd.prog.sz 158 = some 4 := by kernel_rfl
theorem zr158 : Tryd.prog.zr 158 = some ((([.pointer none, .pointer none, .pointer none, .string ⟨#[]⟩] : List Value)).toArray) := by kernel_rfl
theorem u159 : Tryd.prog.underlying 159 = some (.array 0 16) := by kernel_rfl
theorem z159 : Tryd.prog.sz 159 = some 0 := by kernel_rfl
theorem zr159 : Tryd.prog.zr 159 = some ((([] : List Value)).toArray) := by kernel_rfl
theorem u160 : Tryd.prog.underlying 160 = some (.struct ([{ name := "_", type := 159, offset := 0, embedded := false, tag := "", pkgPath := "runtime", byteOffset := 0 }]).toArray) := by kernel_rfl
theorem z160 : Tryd.prog.sz 160 = some 0 := by kernel_rfl
theorem zr160 : Tryd.prog.zr 160 = some ((([] : List Value)).toArray) := by kernel_rfl
theorem u161 : Tryd.prog.underlying 161 = some (.struct ([{ name := "_", type := 159, offset := 0, embedded := false, tag := "", pkgPath := "runtime", byteOffset := 0 }]).toArray) := by kernel_rfl
theorem z161 : Tryd.prog.sz 161 = some 0 := by kernel_rfl
theorem zr161 : Tryd.prog.zr 161 = some ((([] : List Value)).toArray) := by kernel_rfl
theorem u162 : Tryd.prog.underlying 162 = some (.int .u8) := by kernel_rfl
theorem z162 : Tryd.prog.sz 162 = some 1 := by kernel_rfl
theorem zr162 : Tryd.prog.zr 162 = some ((([.int .u8 0] : List Value)).toArray) := by kernel_rfl
theorem u163 : Tryd.prog.underlying 163 = some (.int .u8) := by kernel_rfl
theorem z163 : Tryd.prog.sz 163 = some 1 := by kernel_rfl
theorem zr163 : Tryd.prog.zr 163 = some ((([.int .u8 0] : List Value)).toArray) := by kernel_rfl
theorem u164 : Tryd.prog.underlying 164 = some (.func ([126, 126]).toArray ([4]).toArray false) := by kernel_rfl
theorem z164 : Tryd.prog.sz 164 = some 1 := by kernel_rfl
theorem zr164 : Tryd.prog.zr 164 = some ((([.nilFunc] : List Value)).toArray) := by kernel_rfl
theorem u165 : Tryd.prog.underlying 165 = some (.pointer 5) := by kernel_rfl
theorem z165 : Tryd.prog.sz 165 = some 1 := by kernel_rfl
theorem zr165 : Tryd.prog.zr 165 = some ((([.pointer none] : List Value)).toArray) := by kernel_rfl
theorem u166 : Tryd.prog.underlying 166 = some (.int .i32) := by kernel_rfl
theorem z166 : Tryd.prog.sz 166 = some 1 := by kernel_rfl
theorem zr166 : Tryd.prog.zr 166 = some ((([.int .i32 0] : List Value)).toArray) := by kernel_rfl
theorem u167 : Tryd.prog.underlying 167 = some (.int .i32) := by kernel_rfl
theorem z167 : Tryd.prog.sz 167 = some 1 := by kernel_rfl
theorem zr167 : Tryd.prog.zr 167 = some ((([.int .i32 0] : List Value)).toArray) := by kernel_rfl
theorem u168 : Tryd.prog.underlying 168 = some (.struct ([{ name := "Size_", type := 12, offset := 0, embedded := false, tag := "", pkgPath := "", byteOffset := 0 }, { name := "PtrBytes", type := 12, offset := 1, embedded := false, tag := "", pkgPath := "", byteOffset := 8 }, { name := "Hash", type := 81, offset := 2, embedded := false, tag := "", pkgPath := "", byteOffset := 16 }, { name := "TFlag", type := 162, offset := 3, embedded := false, tag := "", pkgPath := "", byteOffset := 20 }, { name := "Align_", type := 5, offset := 4, embedded := false, tag := "", pkgPath := "", byteOffset := 21 }, { name := "FieldAlign_", type := 5, offset := 5, embedded := false, tag := "", pkgPath := "", byteOffset := 22 }, { name := "Kind_", type := 163, offset := 6, embedded := false, tag := "", pkgPath := "", byteOffset := 23 }, { name := "Equal", type := 164, offset := 7, embedded := false, tag := "", pkgPath := "", byteOffset := 24 }, { name := "GCData", type := 165, offset := 8, embedded := false, tag := "", pkgPath := "", byteOffset := 32 }, { name := "Str", type := 166, offset := 9, embedded := false, tag := "", pkgPath := "", byteOffset := 40 }, { name := "PtrToThis", type := 167, offset := 10, embedded := false, tag := "", pkgPath := "", byteOffset := 44 }]).toArray) := by kernel_rfl
theorem z168 : Tryd.prog.sz 168 = some 11 := by kernel_rfl
theorem zr168 : Tryd.prog.zr 168 = some ((([.int .u64 0, .int .u64 0, .int .u32 0] : List Value) ++ u8s (List.replicate 4 0) ++ ([.nilFunc, .pointer none, .int .i32 0, .int .i32 0] : List Value)).toArray) := by kernel_rfl
theorem u169 : Tryd.prog.underlying 169 = some (.struct ([{ name := "Size_", type := 12, offset := 0, embedded := false, tag := "", pkgPath := "", byteOffset := 0 }, { name := "PtrBytes", type := 12, offset := 1, embedded := false, tag := "", pkgPath := "", byteOffset := 8 }, { name := "Hash", type := 81, offset := 2, embedded := false, tag := "", pkgPath := "", byteOffset := 16 }, { name := "TFlag", type := 162, offset := 3, embedded := false, tag := "", pkgPath := "", byteOffset := 20 }, { name := "Align_", type := 5, offset := 4, embedded := false, tag := "", pkgPath := "", byteOffset := 21 }, { name := "FieldAlign_", type := 5, offset := 5, embedded := false, tag := "", pkgPath := "", byteOffset := 22 }, { name := "Kind_", type := 163, offset := 6, embedded := false, tag := "", pkgPath := "", byteOffset := 23 }, { name := "Equal", type := 164, offset := 7, embedded := false, tag := "", pkgPath := "", byteOffset := 24 }, { name := "GCData", type := 165, offset := 8, embedded := false, tag := "", pkgPath := "", byteOffset := 32 }, { name := "Str", type := 166, offset := 9, embedded := false, tag := "", pkgPath := "", byteOffset := 40 }, { name := "PtrToThis", type := 167, offset := 10, embedded := false, tag := "", pkgPath := "", byteOffset := 44 }]).toArray) := by kernel_rfl
theorem z169 : Tryd.prog.sz 169 = some 11 := by kernel_rfl
theorem zr169 : Tryd.prog.zr 169 = some ((([.int .u64 0, .int .u64 0, .int .u32 0] : List Value) ++ u8s (List.replicate 4 0) ++ ([.nilFunc, .pointer none, .int .i32 0, .int .i32 0] : List Value)).toArray) := by kernel_rfl
end Go.Proofs.YtijplknkpkmblaaDoor.T
