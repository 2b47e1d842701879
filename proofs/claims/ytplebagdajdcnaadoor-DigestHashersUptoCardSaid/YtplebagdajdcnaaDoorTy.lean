/- What the types of the loaded program are. Printed by mktypes.py. -/
import Derived.Test.YtplebagdajdcnaaDoorProg
import Derived.Test.YtplebagdajdcnaaDoorHwLoop
namespace Go.Proofs.YtplebagdajdcnaaDoor.T
open Go Go.Hw
set_option maxRecDepth 100000
theorem u3 : Tryd.prog.underlying 3 = some (.int .i64) := by kernel_rfl
theorem z3 : Tryd.prog.sz 3 = some 1 := by kernel_rfl
theorem zr3 : Tryd.prog.zr 3 = some ((([.int .i64 0] : List Value)).toArray) := by kernel_rfl
theorem u4 : Tryd.prog.underlying 4 = some .bool := by kernel_rfl
theorem z4 : Tryd.prog.sz 4 = some 1 := by kernel_rfl
theorem zr4 : Tryd.prog.zr 4 = some ((([.bool false] : List Value)).toArray) := by kernel_rfl
theorem u5 : Tryd.prog.underlying 5 = some (.int .u8) := by kernel_rfl
theorem z5 : Tryd.prog.sz 5 = some 1 := by kernel_rfl
theorem zr5 : Tryd.prog.zr 5 = some ((([.int .u8 0] : List Value)).toArray) := by kernel_rfl
theorem u9 : Tryd.prog.underlying 9 = some .string := by kernel_rfl
theorem z9 : Tryd.prog.sz 9 = some 1 := by kernel_rfl
theorem zr9 : Tryd.prog.zr 9 = some ((([.string ⟨#[]⟩] : List Value)).toArray) := by kernel_rfl
theorem u22 : Tryd.prog.underlying 22 = some (.slice 5) := by kernel_rfl
theorem z22 : Tryd.prog.sz 22 = some 1 := by kernel_rfl
theorem zr22 : Tryd.prog.zr 22 = some ((([.slice none 0 0] : List Value)).toArray) := by kernel_rfl
theorem u24 : Tryd.prog.underlying 24 = some (.array 32 5) := by kernel_rfl
theorem z24 : Tryd.prog.sz 24 = some 32 := by kernel_rfl
theorem zr24 : Tryd.prog.zr 24 = some ((u8s (List.replicate 32 0)).toArray) := by kernel_rfl
theorem u25 : Tryd.prog.underlying 25 = some (.array 32 5) := by kernel_rfl
theorem z25 : Tryd.prog.sz 25 = some 32 := by kernel_rfl
theorem zr25 : Tryd.prog.zr 25 = some ((u8s (List.replicate 32 0)).toArray) := by kernel_rfl
theorem u29 : Tryd.prog.underlying 29 = some (.slice 22) := by kernel_rfl
theorem z29 : Tryd.prog.sz 29 = some 1 := by kernel_rfl
theorem zr29 : Tryd.prog.zr 29 = some ((([.slice none 0 0] : List Value)).toArray) := by kernel_rfl
theorem u36 : Tryd.prog.underlying 36 = some (.int .i64) := by kernel_rfl
theorem z36 : Tryd.prog.sz 36 = some 1 := by kernel_rfl
theorem zr36 : Tryd.prog.zr 36 = some ((([.int .i64 0] : List Value)).toArray) := by kernel_rfl
theorem u37 : Tryd.prog.underlying 37 = some (.tuple ([25, 36]).toArray) := by kernel_rfl
theorem z37 : Tryd.prog.sz 37 = some 1 := by kernel_rfl
theorem u40 : Tryd.prog.underlying 40 = some (.slice 45) := by kernel_rfl
theorem z40 : Tryd.prog.sz 40 = some 1 := by kernel_rfl
theorem zr40 : Tryd.prog.zr 40 = some ((([.slice none 0 0] : List Value)).toArray) := by kernel_rfl
theorem u41 : Tryd.prog.underlying 41 = some (.slice 48) := by kernel_rfl
theorem z41 : Tryd.prog.sz 41 = some 1 := by kernel_rfl
theorem zr41 : Tryd.prog.zr 41 = some ((([.slice none 0 0] : List Value)).toArray) := by kernel_rfl
theorem u42 : Tryd.prog.underlying 42 = some (.tuple ([41, 4]).toArray) := by kernel_rfl
theorem z42 : Tryd.prog.sz 42 = some 1 := by kernel_rfl
theorem u44 : Tryd.prog.underlying 44 = some (.struct ([{ name := "Kind", type := 3, offset := 0, embedded := false, tag := "", pkgPath := "", byteOffset := 0 }, { name := "H", type := 3, offset := 1, embedded := false, tag := "", pkgPath := "", byteOffset := 8 }, { name := "B", type := 22, offset := 2, embedded := false, tag := "", pkgPath := "", byteOffset := 16 }]).toArray) := by kernel_rfl
theorem z44 : Tryd.prog.sz 44 = some 3 := by kernel_rfl
theorem zr44 : Tryd.prog.zr 44 = some ((([.int .i64 0, .int .i64 0, .slice none 0 0] : List Value)).toArray) := by kernel_rfl
theorem u45 : Tryd.prog.underlying 45 = some (.struct ([{ name := "Kind", type := 3, offset := 0, embedded := false, tag := "", pkgPath := "", byteOffset := 0 }, { name := "H", type := 3, offset := 1, embedded := false, tag := "", pkgPath := "", byteOffset := 8 }, { name := "B", type := 22, offset := 2, embedded := false, tag := "", pkgPath := "", byteOffset := 16 }]).toArray) := by kernel_rfl
theorem z45 : Tryd.prog.sz 45 = some 3 := by kernel_rfl
theorem zr45 : Tryd.prog.zr 45 = some ((([.int .i64 0, .int .i64 0, .slice none 0 0] : List Value)).toArray) := by kernel_rfl
theorem u46 : Tryd.prog.underlying 46 = some (.pointer 71) := by kernel_rfl
theorem z46 : Tryd.prog.sz 46 = some 1 := by kernel_rfl
theorem zr46 : Tryd.prog.zr 46 = some ((([.pointer none] : List Value)).toArray) := by kernel_rfl
theorem u47 : Tryd.prog.underlying 47 = some (.struct ([{ name := "H", type := 46, offset := 0, embedded := false, tag := "", pkgPath := "", byteOffset := 0 }, { name := "All", type := 22, offset := 1, embedded := false, tag := "", pkgPath := "", byteOffset := 8 }]).toArray) := by kernel_rfl
theorem z47 : Tryd.prog.sz 47 = some 2 := by kernel_rfl
theorem zr47 : Tryd.prog.zr 47 = some ((([.pointer none, .slice none 0 0] : List Value)).toArray) := by kernel_rfl
theorem u48 : Tryd.prog.underlying 48 = some (.struct ([{ name := "H", type := 46, offset := 0, embedded := false, tag := "", pkgPath := "", byteOffset := 0 }, { name := "All", type := 22, offset := 1, embedded := false, tag := "", pkgPath := "", byteOffset := 8 }]).toArray) := by kernel_rfl
theorem z48 : Tryd.prog.sz 48 = some 2 := by kernel_rfl
theorem zr48 : Tryd.prog.zr 48 = some ((([.pointer none, .slice none 0 0] : List Value)).toArray) := by kernel_rfl
theorem u58 : Tryd.prog.underlying 58 = some (.int .u32) := by kernel_rfl
theorem z58 : Tryd.prog.sz 58 = some 1 := by kernel_rfl
theorem zr58 : Tryd.prog.zr 58 = some ((([.int .u32 0] : List Value)).toArray) := by kernel_rfl
theorem u59 : Tryd.prog.underlying 59 = some (.array 8 58) := by kernel_rfl
theorem z59 : Tryd.prog.sz 59 = some 8 := by kernel_rfl
theorem zr59 : Tryd.prog.zr 59 = some ((w32s (List.replicate 8 0)).toArray) := by kernel_rfl
theorem u61 : Tryd.prog.underlying 61 = some (.int .u64) := by kernel_rfl
theorem z61 : Tryd.prog.sz 61 = some 1 := by kernel_rfl
theorem zr61 : Tryd.prog.zr 61 = some ((([.int .u64 0] : List Value)).toArray) := by kernel_rfl
theorem u63 : Tryd.prog.underlying 63 = some (.int .u64) := by kernel_rfl
theorem z63 : Tryd.prog.sz 63 = some 1 := by kernel_rfl
theorem zr63 : Tryd.prog.zr 63 = some ((([.int .u64 0] : List Value)).toArray) := by kernel_rfl
theorem u65 : Tryd.prog.underlying 65 = some (.array 64 5) := by kernel_rfl
theorem z65 : Tryd.prog.sz 65 = some 64 := by kernel_rfl
theorem zr65 : Tryd.prog.zr 65 = some ((u8s (List.replicate 64 0)).toArray) := by kernel_rfl
theorem u69 : Tryd.prog.underlying 69 = some (.array 8 58) := by kernel_rfl
theorem z69 : Tryd.prog.sz 69 = some 8 := by kernel_rfl
theorem zr69 : Tryd.prog.zr 69 = some ((w32s (List.replicate 8 0)).toArray) := by kernel_rfl
theorem u70 : Tryd.prog.underlying 70 = some (.struct ([{ name := "s", type := 69, offset := 0, embedded := false, tag := "", pkgPath := "hearsay/digest", byteOffset := 0 }, { name := "part", type := 65, offset := 8, embedded := false, tag := "", pkgPath := "hearsay/digest", byteOffset := 32 }, { name := "n", type := 3, offset := 72, embedded := false, tag := "", pkgPath := "hearsay/digest", byteOffset := 96 }]).toArray) := by kernel_rfl
theorem z70 : Tryd.prog.sz 70 = some 73 := by kernel_rfl
theorem zr70 : Tryd.prog.zr 70 = some ((w32s (List.replicate 8 0) ++ u8s (List.replicate 64 0) ++ ([.int .i64 0] : List Value)).toArray) := by kernel_rfl
theorem u71 : Tryd.prog.underlying 71 = some (.struct ([{ name := "s", type := 69, offset := 0, embedded := false, tag := "", pkgPath := "hearsay/digest", byteOffset := 0 }, { name := "part", type := 65, offset := 8, embedded := false, tag := "", pkgPath := "hearsay/digest", byteOffset := 32 }, { name := "n", type := 3, offset := 72, embedded := false, tag := "", pkgPath := "hearsay/digest", byteOffset := 96 }]).toArray) := by kernel_rfl
theorem z71 : Tryd.prog.sz 71 = some 73 := by kernel_rfl
theorem zr71 : Tryd.prog.zr 71 = some ((w32s (List.replicate 8 0) ++ u8s (List.replicate 64 0) ++ ([.int .i64 0] : List Value)).toArray) := by kernel_rfl
theorem u72 : Tryd.prog.underlying 72 = some (.array 64 58) := by kernel_rfl
theorem z72 : Tryd.prog.sz 72 = some 64 := by kernel_rfl
theorem zr72 : Tryd.prog.zr 72 = some ((w32s (List.replicate 64 0)).toArray) := by kernel_rfl
theorem u74 : Tryd.prog.underlying 74 = some (.array 8 5) := by kernel_rfl
theorem z74 : Tryd.prog.sz 74 = some 8 := by kernel_rfl
theorem zr74 : Tryd.prog.zr 74 = some ((u8s (List.replicate 8 0)).toArray) := by kernel_rfl
theorem u75 : Tryd.prog.underlying 75 = some (.pointer 69) := by kernel_rfl
theorem z75 : Tryd.prog.sz 75 = some 1 := by kernel_rfl
theorem zr75 : Tryd.prog.zr 75 = some ((([.pointer none] : List Value)).toArray) := by kernel_rfl
end Go.Proofs.YtplebagdajdcnaaDoor.T
