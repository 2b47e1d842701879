/- What the types of the loaded program are. Printed by mktypes.py. -/
import Derived.Test.YtgiiifadbnpfkaaGreatDoorProg
import Derived.Test.YtgiiifadbnpfkaaGreatDoorHxTurn
namespace Go.Proofs.YtgiiifadbnpfkaaGreatDoor.T
set_option linter.unusedSimpArgs false
set_option linter.unusedVariables false
open Go Go.Hw
set_option maxRecDepth 100000
theorem u0 : Tryz.prog.underlying 0 = some (.tuple ([]).toArray) := by kernel_rfl
theorem z0 : Tryz.prog.sz 0 = some 1 := by kernel_rfl
theorem z1 : Tryz.prog.sz 1 = some 1 := by kernel_rfl
theorem u2 : Tryz.prog.underlying 2 = some (.int .i64) := by kernel_rfl
theorem z2 : Tryz.prog.sz 2 = some 1 := by kernel_rfl
theorem u3 : Tryz.prog.underlying 3 = some (.int .i64) := by kernel_rfl
theorem z3 : Tryz.prog.sz 3 = some 1 := by kernel_rfl
theorem zr3 : Tryz.prog.zr 3 = some ((([.int .i64 0] : List Value)).toArray) := by kernel_rfl
theorem u4 : Tryz.prog.underlying 4 = some .bool := by kernel_rfl
theorem z4 : Tryz.prog.sz 4 = some 1 := by kernel_rfl
theorem zr4 : Tryz.prog.zr 4 = some ((([.bool false] : List Value)).toArray) := by kernel_rfl
theorem u5 : Tryz.prog.underlying 5 = some (.int .u8) := by kernel_rfl
theorem z5 : Tryz.prog.sz 5 = some 1 := by kernel_rfl
theorem zr5 : Tryz.prog.zr 5 = some ((([.int .u8 0] : List Value)).toArray) := by kernel_rfl
theorem u8 : Tryz.prog.underlying 8 = some (.struct ([{ name := "x", type := 2, offset := 0, embedded := false, tag := "", pkgPath := "runtime", byteOffset := 0 }, { name := "y", type := 3, offset := 1, embedded := false, tag := "", pkgPath := "runtime", byteOffset := 8 }, { name := "signed", type := 4, offset := 2, embedded := false, tag := "", pkgPath := "runtime", byteOffset := 16 }, { name := "code", type := 6, offset := 3, embedded := false, tag := "", pkgPath := "runtime", byteOffset := 17 }]).toArray) := by kernel_rfl
theorem u9 : Tryz.prog.underlying 9 = some .string := by kernel_rfl
theorem z9 : Tryz.prog.sz 9 = some 1 := by kernel_rfl
theorem u21 : Tryz.prog.underlying 21 = some (.int .i32) := by kernel_rfl
theorem u22 : Tryz.prog.underlying 22 = some (.slice 65) := by kernel_rfl
theorem z22 : Tryz.prog.sz 22 = some 1 := by kernel_rfl
theorem u23 : Tryz.prog.underlying 23 = some (.pointer 84) := by kernel_rfl
theorem z23 : Tryz.prog.sz 23 = some 1 := by kernel_rfl
theorem zr23 : Tryz.prog.zr 23 = some ((([.pointer none] : List Value)).toArray) := by kernel_rfl
theorem u24 : Tryz.prog.underlying 24 = some (.slice 36) := by kernel_rfl
theorem z24 : Tryz.prog.sz 24 = some 1 := by kernel_rfl
theorem z25 : Tryz.prog.sz 25 = some 1 := by kernel_rfl
theorem u27 : Tryz.prog.underlying 27 = some (.slice 34) := by kernel_rfl
theorem z27 : Tryz.prog.sz 27 = some 1 := by kernel_rfl
theorem zr27 : Tryz.prog.zr 27 = some ((([.slice none 0 0] : List Value)).toArray) := by kernel_rfl
theorem u31 : Tryz.prog.underlying 31 = some (.struct ([{ name := "Kind", type := 3, offset := 0, embedded := false, tag := "", pkgPath := "", byteOffset := 0 }, { name := "N", type := 3, offset := 1, embedded := false, tag := "", pkgPath := "", byteOffset := 8 }, { name := "S", type := 9, offset := 2, embedded := false, tag := "", pkgPath := "", byteOffset := 16 }]).toArray) := by kernel_rfl
theorem z31 : Tryz.prog.sz 31 = some 3 := by kernel_rfl
theorem zr31 : Tryz.prog.zr 31 = some ((([.int .i64 0, .int .i64 0, .string ⟨#[]⟩] : List Value)).toArray) := by kernel_rfl
theorem u32 : Tryz.prog.underlying 32 = some (.slice 31) := by kernel_rfl
theorem z32 : Tryz.prog.sz 32 = some 1 := by kernel_rfl
theorem u34 : Tryz.prog.underlying 34 = some (.struct ([{ name := "By", type := 31, offset := 0, embedded := false, tag := "", pkgPath := "", byteOffset := 0 }, { name := "Name", type := 9, offset := 3, embedded := false, tag := "", pkgPath := "", byteOffset := 32 }, { name := "Args", type := 32, offset := 4, embedded := false, tag := "", pkgPath := "", byteOffset := 48 }]).toArray) := by kernel_rfl
theorem z34 : Tryz.prog.sz 34 = some 5 := by kernel_rfl
theorem zr34 : Tryz.prog.zr 34 = some ((([.int .i64 0, .int .i64 0, .string ⟨#[]⟩, .string ⟨#[]⟩, .slice none 0 0] : List Value)).toArray) := by kernel_rfl
theorem z35 : Tryz.prog.sz 35 = some 6 := by kernel_rfl
theorem u36 : Tryz.prog.underlying 36 = some (.struct ([{ name := "F", type := 34, offset := 0, embedded := false, tag := "", pkgPath := "", byteOffset := 0 }, { name := "Part", type := 3, offset := 5, embedded := false, tag := "", pkgPath := "", byteOffset := 72 }]).toArray) := by kernel_rfl
theorem z36 : Tryz.prog.sz 36 = some 6 := by kernel_rfl
theorem zr36 : Tryz.prog.zr 36 = some ((([.int .i64 0, .int .i64 0, .string ⟨#[]⟩, .string ⟨#[]⟩, .slice none 0 0, .int .i64 0] : List Value)).toArray) := by kernel_rfl
theorem z39 : Tryz.prog.sz 39 = some 1 := by kernel_rfl
theorem z41 : Tryz.prog.sz 41 = some 1 := by kernel_rfl
theorem u43 : Tryz.prog.underlying 43 = some (.struct ([{ name := "Name", type := 9, offset := 0, embedded := false, tag := "", pkgPath := "", byteOffset := 0 }, { name := "Arity", type := 3, offset := 1, embedded := false, tag := "", pkgPath := "", byteOffset := 16 }]).toArray) := by kernel_rfl
theorem z43 : Tryz.prog.sz 43 = some 2 := by kernel_rfl
theorem zr43 : Tryz.prog.zr 43 = some ((([.string ⟨#[]⟩, .int .i64 0] : List Value)).toArray) := by kernel_rfl
theorem z44 : Tryz.prog.sz 44 = some 1 := by kernel_rfl
theorem z45 : Tryz.prog.sz 45 = some 1 := by kernel_rfl
theorem z46 : Tryz.prog.sz 46 = some 1 := by kernel_rfl
theorem u48 : Tryz.prog.underlying 48 = some (.slice 103) := by kernel_rfl
theorem z50 : Tryz.prog.sz 50 = some 1 := by kernel_rfl
theorem z53 : Tryz.prog.sz 53 = some 1 := by kernel_rfl
theorem u54 : Tryz.prog.underlying 54 = some (.func ([78]).toArray ([]).toArray false) := by kernel_rfl
theorem z54 : Tryz.prog.sz 54 = some 1 := by kernel_rfl
theorem zr54 : Tryz.prog.zr 54 = some ((([.nilFunc] : List Value)).toArray) := by kernel_rfl
theorem z55 : Tryz.prog.sz 55 = some 1 := by kernel_rfl
theorem z57 : Tryz.prog.sz 57 = some 1 := by kernel_rfl
theorem z63 : Tryz.prog.sz 63 = some 1 := by kernel_rfl
theorem u64 : Tryz.prog.underlying 64 = some (.struct ([{ name := "Kind", type := 3, offset := 0, embedded := false, tag := "", pkgPath := "", byteOffset := 0 }, { name := "F", type := 34, offset := 1, embedded := false, tag := "", pkgPath := "", byteOffset := 8 }, { name := "N", type := 3, offset := 6, embedded := false, tag := "", pkgPath := "", byteOffset := 80 }, { name := "Other", type := 4, offset := 7, embedded := false, tag := "", pkgPath := "", byteOffset := 88 }]).toArray) := by kernel_rfl
theorem z64 : Tryz.prog.sz 64 = some 8 := by kernel_rfl
theorem u65 : Tryz.prog.underlying 65 = some (.struct ([{ name := "Kind", type := 3, offset := 0, embedded := false, tag := "", pkgPath := "", byteOffset := 0 }, { name := "F", type := 34, offset := 1, embedded := false, tag := "", pkgPath := "", byteOffset := 8 }, { name := "N", type := 3, offset := 6, embedded := false, tag := "", pkgPath := "", byteOffset := 80 }, { name := "Other", type := 4, offset := 7, embedded := false, tag := "", pkgPath := "", byteOffset := 88 }]).toArray) := by kernel_rfl
theorem z65 : Tryz.prog.sz 65 = some 8 := by kernel_rfl
theorem zr65 : Tryz.prog.zr 65 = some ((([.int .i64 0, .int .i64 0, .int .i64 0, .string ⟨#[]⟩, .string ⟨#[]⟩, .slice none 0 0, .int .i64 0, .bool false] : List Value)).toArray) := by kernel_rfl
theorem z66 : Tryz.prog.sz 66 = some 1 := by kernel_rfl
theorem z70 : Tryz.prog.sz 70 = some 5 := by kernel_rfl
theorem u74 : Tryz.prog.underlying 74 = some (.slice 3) := by kernel_rfl
theorem z74 : Tryz.prog.sz 74 = some 1 := by kernel_rfl
theorem zr74 : Tryz.prog.zr 74 = some ((([.slice none 0 0] : List Value)).toArray) := by kernel_rfl
theorem z76 : Tryz.prog.sz 76 = some 1 := by kernel_rfl
theorem z77 : Tryz.prog.sz 77 = some 1 := by kernel_rfl
theorem u79 : Tryz.prog.underlying 79 = some (.map 31 3) := by kernel_rfl
theorem z79 : Tryz.prog.sz 79 = some 1 := by kernel_rfl
theorem u81 : Tryz.prog.underlying 81 = some (.struct ([{ name := "numbers", type := 79, offset := 0, embedded := false, tag := "", pkgPath := "hearsay/base", byteOffset := 0 }, { name := "values", type := 32, offset := 1, embedded := false, tag := "", pkgPath := "hearsay/base", byteOffset := 8 }]).toArray) := by kernel_rfl
theorem u82 : Tryz.prog.underlying 82 = some (.map 43 85) := by kernel_rfl
theorem u84 : Tryz.prog.underlying 84 = some (.struct ([{ name := "table", type := 81, offset := 0, embedded := true, tag := "", pkgPath := "hearsay/base", byteOffset := 0 }, { name := "rels", type := 82, offset := 2, embedded := false, tag := "", pkgPath := "hearsay/base", byteOffset := 32 }]).toArray) := by kernel_rfl
theorem zr84 : Tryz.prog.zr 84 = some ((([.map none, .slice none 0 0, .map none] : List Value)).toArray) := by kernel_rfl
theorem u85 : Tryz.prog.underlying 85 = some (.pointer 142) := by kernel_rfl
theorem u86 : Tryz.prog.underlying 86 = some (.slice 74) := by kernel_rfl
theorem z86 : Tryz.prog.sz 86 = some 1 := by kernel_rfl
theorem zr86 : Tryz.prog.zr 86 = some ((([.slice none 0 0] : List Value)).toArray) := by kernel_rfl
theorem u101 : Tryz.prog.underlying 101 = some (.map 3 31) := by kernel_rfl
theorem u103 : Tryz.prog.underlying 103 = some (.struct ([{ name := "Var", type := 3, offset := 0, embedded := false, tag := "", pkgPath := "", byteOffset := 0 }, { name := "To", type := 31, offset := 1, embedded := false, tag := "", pkgPath := "", byteOffset := 8 }]).toArray) := by kernel_rfl
theorem z103 : Tryz.prog.sz 103 = some 4 := by kernel_rfl
theorem zr103 : Tryz.prog.zr 103 = some ((([.int .i64 0, .int .i64 0, .int .i64 0, .string ⟨#[]⟩] : List Value)).toArray) := by kernel_rfl
theorem u125 : Tryz.prog.underlying 125 = some (.int .u64) := by kernel_rfl
theorem u130 : Tryz.prog.underlying 130 = some (.map 9 143) := by kernel_rfl
theorem u131 : Tryz.prog.underlying 131 = some (.slice 143) := by kernel_rfl
theorem z131 : Tryz.prog.sz 131 = some 1 := by kernel_rfl
theorem u132 : Tryz.prog.underlying 132 = some (.array 8 3) := by kernel_rfl
theorem u133 : Tryz.prog.underlying 133 = some (.map 9 153) := by kernel_rfl
theorem u138 : Tryz.prog.underlying 138 = some (.struct ([{ name := "state", type := 21, offset := 0, embedded := false, tag := "", pkgPath := "internal/sync", byteOffset := 0 }, { name := "sema", type := 136, offset := 1, embedded := false, tag := "", pkgPath := "internal/sync", byteOffset := 4 }]).toArray) := by kernel_rfl
theorem u140 : Tryz.prog.underlying 140 = some (.struct ([{ name := "_", type := 135, offset := 0, embedded := false, tag := "", pkgPath := "sync", byteOffset := 0 }, { name := "mu", type := 138, offset := 0, embedded := false, tag := "", pkgPath := "sync", byteOffset := 0 }]).toArray) := by kernel_rfl
theorem u142 : Tryz.prog.underlying 142 = some (.struct ([{ name := "width", type := 3, offset := 0, embedded := false, tag := "", pkgPath := "hearsay/rel", byteOffset := 0 }, { name := "rows", type := 130, offset := 1, embedded := false, tag := "", pkgPath := "hearsay/rel", byteOffset := 8 }, { name := "fresh", type := 131, offset := 2, embedded := false, tag := "", pkgPath := "hearsay/rel", byteOffset := 16 }, { name := "next", type := 131, offset := 3, embedded := false, tag := "", pkgPath := "hearsay/rel", byteOffset := 40 }, { name := "count", type := 132, offset := 4, embedded := false, tag := "", pkgPath := "hearsay/rel", byteOffset := 64 }, { name := "indexes", type := 133, offset := 12, embedded := false, tag := "", pkgPath := "hearsay/rel", byteOffset := 128 }, { name := "making", type := 140, offset := 13, embedded := false, tag := "", pkgPath := "hearsay/rel", byteOffset := 136 }]).toArray) := by kernel_rfl
theorem zr142 : Tryz.prog.zr 142 = some ((([.int .i64 0, .map none, .slice none 0 0, .slice none 0 0, .int .i64 0, .int .i64 0, .int .i64 0, .int .i64 0, .int .i64 0, .int .i64 0, .int .i64 0, .int .i64 0, .map none, .int .i32 0, .int .u32 0] : List Value)).toArray) := by kernel_rfl
theorem u143 : Tryz.prog.underlying 143 = some (.pointer 146) := by kernel_rfl
theorem z143 : Tryz.prog.sz 143 = some 1 := by kernel_rfl
theorem zr143 : Tryz.prog.zr 143 = some ((([.pointer none] : List Value)).toArray) := by kernel_rfl
theorem u146 : Tryz.prog.underlying 146 = some (.struct ([{ name := "row", type := 74, offset := 0, embedded := false, tag := "", pkgPath := "hearsay/rel", byteOffset := 0 }, { name := "part", type := 3, offset := 1, embedded := false, tag := "", pkgPath := "hearsay/rel", byteOffset := 24 }]).toArray) := by kernel_rfl
theorem zr146 : Tryz.prog.zr 146 = some ((([.slice none 0 0, .int .i64 0] : List Value)).toArray) := by kernel_rfl
theorem u153 : Tryz.prog.underlying 153 = some (.pointer 166) := by kernel_rfl
theorem u164 : Tryz.prog.underlying 164 = some (.map 9 131) := by kernel_rfl
theorem u166 : Tryz.prog.underlying 166 = some (.struct ([{ name := "cols", type := 74, offset := 0, embedded := false, tag := "", pkgPath := "hearsay/rel", byteOffset := 0 }, { name := "rows", type := 164, offset := 1, embedded := false, tag := "", pkgPath := "hearsay/rel", byteOffset := 24 }]).toArray) := by kernel_rfl
theorem zr166 : Tryz.prog.zr 166 = some ((([.slice none 0 0, .map none] : List Value)).toArray) := by kernel_rfl
theorem u179 : Tryz.prog.underlying 179 = some (.int .u64) := by kernel_rfl
theorem u180 : Tryz.prog.underlying 180 = some (.slice 5) := by kernel_rfl
theorem u192 : Tryz.prog.underlying 192 = some (.map 3 3) := by kernel_rfl
theorem u233 : Tryz.prog.underlying 233 = some (.pointer 138) := by kernel_rfl
theorem u237 : Tryz.prog.underlying 237 = some .unsafePointer := by kernel_rfl
theorem u258 : Tryz.prog.underlying 258 = some (.array 65 5) := by kernel_rfl
theorem zr258 : Tryz.prog.zr 258 = some ((u8s (List.replicate 65 0)).toArray) := by kernel_rfl
end Go.Proofs.YtgiiifadbnpfkaaGreatDoor.T
