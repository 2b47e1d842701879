/- What the types of the loaded program are. Printed by mktypes.py. -/
import Derived.Test.YtplebagdajdcnaaProg
import Derived.Test.YtplebagdajdcnaaHwLoop
namespace Go.Proofs.Ytplebagdajdcnaa.T
open Go Go.Hw
set_option maxRecDepth 100000
theorem u3 : Try.prog.underlying 3 = some (.int .i64) := by kernel_rfl
theorem z3 : Try.prog.sz 3 = some 1 := by kernel_rfl
theorem zr3 : Try.prog.zr 3 = some (([.int .i64 0] : List Value).toArray) := by kernel_rfl
theorem u4 : Try.prog.underlying 4 = some .bool := by kernel_rfl
theorem z4 : Try.prog.sz 4 = some 1 := by kernel_rfl
theorem zr4 : Try.prog.zr 4 = some (([.bool false] : List Value).toArray) := by kernel_rfl
theorem u5 : Try.prog.underlying 5 = some (.int .u8) := by kernel_rfl
theorem z5 : Try.prog.sz 5 = some 1 := by kernel_rfl
theorem zr5 : Try.prog.zr 5 = some (([.int .u8 0] : List Value).toArray) := by kernel_rfl
theorem u9 : Try.prog.underlying 9 = some .string := by kernel_rfl
theorem z9 : Try.prog.sz 9 = some 1 := by kernel_rfl
theorem zr9 : Try.prog.zr 9 = some (([.string { data := ([]).toArray }] : List Value).toArray) := by kernel_rfl
theorem u22 : Try.prog.underlying 22 = some (.array 32 5) := by kernel_rfl
theorem z22 : Try.prog.sz 22 = some 32 := by kernel_rfl
theorem zr22 : Try.prog.zr 22 = some ((u8s (List.replicate 32 0)).toArray) := by kernel_rfl
theorem u23 : Try.prog.underlying 23 = some (.array 32 5) := by kernel_rfl
theorem z23 : Try.prog.sz 23 = some 32 := by kernel_rfl
theorem zr23 : Try.prog.zr 23 = some ((u8s (List.replicate 32 0)).toArray) := by kernel_rfl
theorem u24 : Try.prog.underlying 24 = some (.int .i64) := by kernel_rfl
theorem z24 : Try.prog.sz 24 = some 1 := by kernel_rfl
theorem zr24 : Try.prog.zr 24 = some (([.int .i64 0] : List Value).toArray) := by kernel_rfl
theorem u30 : Try.prog.underlying 30 = some (.int .u64) := by kernel_rfl
theorem z30 : Try.prog.sz 30 = some 1 := by kernel_rfl
theorem zr30 : Try.prog.zr 30 = some (([.int .u64 0] : List Value).toArray) := by kernel_rfl
theorem u31 : Try.prog.underlying 31 = some (.slice 5) := by kernel_rfl
theorem z31 : Try.prog.sz 31 = some 1 := by kernel_rfl
theorem zr31 : Try.prog.zr 31 = some (([.slice none 0 0] : List Value).toArray) := by kernel_rfl
theorem u39 : Try.prog.underlying 39 = some (.int .u32) := by kernel_rfl
theorem z39 : Try.prog.sz 39 = some 1 := by kernel_rfl
theorem zr39 : Try.prog.zr 39 = some (([.int .u32 0] : List Value).toArray) := by kernel_rfl
end Go.Proofs.Ytplebagdajdcnaa.T
