/- What the types of the loaded program are. Printed by mktypes.py. -/
import Derived.Test.YtpgpkjbahlmgeaaGreatDoorProg
import Derived.Test.YtpgpkjbahlmgeaaGreatDoorHxTurn
namespace Go.Proofs.YtpgpkjbahlmgeaaGreatDoor.T
set_option linter.unusedSimpArgs false
set_option linter.unusedVariables false
open Go Go.Hw
set_option maxRecDepth 100000
theorem u0 : Tryz.prog.underlying 0 = some (.tuple ([]).toArray) := by kernel_rfl
theorem z0 : Tryz.prog.sz 0 = some 1 := by kernel_rfl
theorem u3 : Tryz.prog.underlying 3 = some (.int .i64) := by kernel_rfl
theorem z3 : Tryz.prog.sz 3 = some 1 := by kernel_rfl
theorem zr3 : Tryz.prog.zr 3 = some ((([.int .i64 0] : List Value)).toArray) := by kernel_rfl
theorem u4 : Tryz.prog.underlying 4 = some .bool := by kernel_rfl
theorem z4 : Tryz.prog.sz 4 = some 1 := by kernel_rfl
theorem zr4 : Tryz.prog.zr 4 = some ((([.bool false] : List Value)).toArray) := by kernel_rfl
theorem z5 : Tryz.prog.sz 5 = some 1 := by kernel_rfl
theorem u8 : Tryz.prog.underlying 8 = some (.struct ([{ name := "x", type := 2, offset := 0, embedded := false, tag := "", pkgPath := "runtime", byteOffset := 0 }, { name := "y", type := 3, offset := 1, embedded := false, tag := "", pkgPath := "runtime", byteOffset := 8 }, { name := "signed", type := 4, offset := 2, embedded := false, tag := "", pkgPath := "runtime", byteOffset := 16 }, { name := "code", type := 6, offset := 3, embedded := false, tag := "", pkgPath := "runtime", byteOffset := 17 }]).toArray) := by kernel_rfl
theorem u9 : Tryz.prog.underlying 9 = some .string := by kernel_rfl
theorem z9 : Tryz.prog.sz 9 = some 1 := by kernel_rfl
theorem z22 : Tryz.prog.sz 22 = some 3 := by kernel_rfl
theorem u23 : Tryz.prog.underlying 23 = some (.struct ([{ name := "Kind", type := 3, offset := 0, embedded := false, tag := "", pkgPath := "", byteOffset := 0 }, { name := "N", type := 3, offset := 1, embedded := false, tag := "", pkgPath := "", byteOffset := 8 }, { name := "S", type := 9, offset := 2, embedded := false, tag := "", pkgPath := "", byteOffset := 16 }]).toArray) := by kernel_rfl
theorem z23 : Tryz.prog.sz 23 = some 3 := by kernel_rfl
theorem zr23 : Tryz.prog.zr 23 = some ((([.int .i64 0, .int .i64 0, .string ⟨#[]⟩] : List Value)).toArray) := by kernel_rfl
theorem u24 : Tryz.prog.underlying 24 = some (.slice 23) := by kernel_rfl
theorem z24 : Tryz.prog.sz 24 = some 1 := by kernel_rfl
theorem zr24 : Tryz.prog.zr 24 = some ((([.slice none 0 0] : List Value)).toArray) := by kernel_rfl
theorem z25 : Tryz.prog.sz 25 = some 5 := by kernel_rfl
theorem u26 : Tryz.prog.underlying 26 = some (.struct ([{ name := "By", type := 23, offset := 0, embedded := false, tag := "", pkgPath := "", byteOffset := 0 }, { name := "Name", type := 9, offset := 3, embedded := false, tag := "", pkgPath := "", byteOffset := 32 }, { name := "Args", type := 24, offset := 4, embedded := false, tag := "", pkgPath := "", byteOffset := 48 }]).toArray) := by kernel_rfl
theorem z26 : Tryz.prog.sz 26 = some 5 := by kernel_rfl
theorem zr26 : Tryz.prog.zr 26 = some ((([.int .i64 0, .int .i64 0, .string ⟨#[]⟩, .string ⟨#[]⟩, .slice none 0 0] : List Value)).toArray) := by kernel_rfl
theorem u27 : Tryz.prog.underlying 27 = some (.slice 26) := by kernel_rfl
theorem z27 : Tryz.prog.sz 27 = some 1 := by kernel_rfl
theorem u28 : Tryz.prog.underlying 28 = some (.slice 45) := by kernel_rfl
theorem z28 : Tryz.prog.sz 28 = some 1 := by kernel_rfl
theorem u30 : Tryz.prog.underlying 30 = some (.struct ([{ name := "Head", type := 26, offset := 0, embedded := false, tag := "", pkgPath := "", byteOffset := 0 }, { name := "Body", type := 27, offset := 5, embedded := false, tag := "", pkgPath := "", byteOffset := 72 }, { name := "Tests", type := 28, offset := 6, embedded := false, tag := "", pkgPath := "", byteOffset := 96 }]).toArray) := by kernel_rfl
theorem z30 : Tryz.prog.sz 30 = some 7 := by kernel_rfl
theorem zr30 : Tryz.prog.zr 30 = some ((([.int .i64 0, .int .i64 0, .string ⟨#[]⟩, .string ⟨#[]⟩, .slice none 0 0, .slice none 0 0, .slice none 0 0] : List Value)).toArray) := by kernel_rfl
theorem u32 : Tryz.prog.underlying 32 = some (.slice 3) := by kernel_rfl
theorem z32 : Tryz.prog.sz 32 = some 1 := by kernel_rfl
theorem zr32 : Tryz.prog.zr 32 = some ((([.slice none 0 0] : List Value)).toArray) := by kernel_rfl
theorem u33 : Tryz.prog.underlying 33 = some (.slice 41) := by kernel_rfl
theorem z33 : Tryz.prog.sz 33 = some 1 := by kernel_rfl
theorem u35 : Tryz.prog.underlying 35 = some (.struct ([{ name := "Ahead", type := 32, offset := 0, embedded := false, tag := "", pkgPath := "", byteOffset := 0 }, { name := "Joins", type := 33, offset := 1, embedded := false, tag := "", pkgPath := "", byteOffset := 24 }]).toArray) := by kernel_rfl
theorem z35 : Tryz.prog.sz 35 = some 2 := by kernel_rfl
theorem zr35 : Tryz.prog.zr 35 = some ((([.slice none 0 0, .slice none 0 0] : List Value)).toArray) := by kernel_rfl
theorem z39 : Tryz.prog.sz 39 = some 1 := by kernel_rfl
theorem u41 : Tryz.prog.underlying 41 = some (.struct ([{ name := "Atom", type := 3, offset := 0, embedded := false, tag := "", pkgPath := "", byteOffset := 0 }, { name := "Known", type := 32, offset := 1, embedded := false, tag := "", pkgPath := "", byteOffset := 8 }, { name := "Tests", type := 32, offset := 2, embedded := false, tag := "", pkgPath := "", byteOffset := 32 }]).toArray) := by kernel_rfl
theorem z41 : Tryz.prog.sz 41 = some 3 := by kernel_rfl
theorem zr41 : Tryz.prog.zr 41 = some ((([.int .i64 0, .slice none 0 0, .slice none 0 0] : List Value)).toArray) := by kernel_rfl
theorem u42 : Tryz.prog.underlying 42 = some (.array 9 4) := by kernel_rfl
theorem zr42 : Tryz.prog.zr 42 = some ((List.replicate 9 (.bool false)).toArray) := by kernel_rfl
theorem u43 : Tryz.prog.underlying 43 = some (.array 72 4) := by kernel_rfl
theorem z43 : Tryz.prog.sz 43 = some 72 := by kernel_rfl
theorem zr43 : Tryz.prog.zr 43 = some ((List.replicate 72 (.bool false)).toArray) := by kernel_rfl
theorem u45 : Tryz.prog.underlying 45 = some (.struct ([{ name := "Op", type := 3, offset := 0, embedded := false, tag := "", pkgPath := "", byteOffset := 0 }, { name := "L", type := 23, offset := 1, embedded := false, tag := "", pkgPath := "", byteOffset := 8 }, { name := "R", type := 23, offset := 4, embedded := false, tag := "", pkgPath := "", byteOffset := 40 }]).toArray) := by kernel_rfl
theorem z45 : Tryz.prog.sz 45 = some 7 := by kernel_rfl
theorem zr45 : Tryz.prog.zr 45 = some ((([.int .i64 0, .int .i64 0, .int .i64 0, .string ⟨#[]⟩, .int .i64 0, .int .i64 0, .string ⟨#[]⟩] : List Value)).toArray) := by kernel_rfl
theorem z46 : Tryz.prog.sz 46 = some 1 := by kernel_rfl
theorem z50 : Tryz.prog.sz 50 = some 1 := by kernel_rfl
theorem z53 : Tryz.prog.sz 53 = some 1 := by kernel_rfl
theorem u54 : Tryz.prog.underlying 54 = some (.pointer 89) := by kernel_rfl
theorem z55 : Tryz.prog.sz 55 = some 1 := by kernel_rfl
theorem u59 : Tryz.prog.underlying 59 = some (.slice 24) := by kernel_rfl
theorem z66 : Tryz.prog.sz 66 = some 1 := by kernel_rfl
theorem z70 : Tryz.prog.sz 70 = some 1 := by kernel_rfl
theorem u72 : Tryz.prog.underlying 72 = some (.map 3 3) := by kernel_rfl
theorem z72 : Tryz.prog.sz 72 = some 1 := by kernel_rfl
theorem zr72 : Tryz.prog.zr 72 = some ((([.map none] : List Value)).toArray) := by kernel_rfl
theorem z76 : Tryz.prog.sz 76 = some 1 := by kernel_rfl
theorem z77 : Tryz.prog.sz 77 = some 1 := by kernel_rfl
theorem u89 : Tryz.prog.underlying 89 = some (.struct ([{ name := "table", type := 86, offset := 0, embedded := true, tag := "", pkgPath := "hearsay/base", byteOffset := 0 }, { name := "rels", type := 87, offset := 2, embedded := false, tag := "", pkgPath := "hearsay/base", byteOffset := 32 }]).toArray) := by kernel_rfl
theorem zr89 : Tryz.prog.zr 89 = some ((([.map none, .slice none 0 0, .map none] : List Value)).toArray) := by kernel_rfl
theorem u93 : Tryz.prog.underlying 93 = some (.slice 96) := by kernel_rfl
theorem u96 : Tryz.prog.underlying 96 = some (.slice 151) := by kernel_rfl
theorem z96 : Tryz.prog.sz 96 = some 1 := by kernel_rfl
theorem zr96 : Tryz.prog.zr 96 = some ((([.slice none 0 0] : List Value)).toArray) := by kernel_rfl
theorem u113 : Tryz.prog.underlying 113 = some (.func ([30]).toArray ([36]).toArray false) := by kernel_rfl
theorem u151 : Tryz.prog.underlying 151 = some (.struct ([{ name := "Var", type := 3, offset := 0, embedded := false, tag := "", pkgPath := "", byteOffset := 0 }, { name := "To", type := 23, offset := 1, embedded := false, tag := "", pkgPath := "", byteOffset := 8 }]).toArray) := by kernel_rfl
theorem z151 : Tryz.prog.sz 151 = some 4 := by kernel_rfl
theorem zr151 : Tryz.prog.zr 151 = some ((([.int .i64 0, .int .i64 0, .int .i64 0, .string ⟨#[]⟩] : List Value)).toArray) := by kernel_rfl
theorem u162 : Tryz.prog.underlying 162 = some (.struct ([{ name := "look", type := 113, offset := 0, embedded := false, tag := "", pkgPath := "hearsay/clause", byteOffset := 0 }]).toArray) := by kernel_rfl
theorem z162 : Tryz.prog.sz 162 = some 1 := by kernel_rfl
theorem zr162 : Tryz.prog.zr 162 = some ((([.nilFunc] : List Value)).toArray) := by kernel_rfl
theorem u163 : Tryz.prog.underlying 163 = some (.array 6 162) := by kernel_rfl
theorem z163 : Tryz.prog.sz 163 = some 6 := by kernel_rfl
end Go.Proofs.YtpgpkjbahlmgeaaGreatDoor.T
