/- What the types of the loaded program are. Printed by mktypes.py. -/
import Derived.Test.YtdgigbopibdflaaGreatDoorProg
import Derived.Test.YtdgigbopibdflaaGreatDoorHxTurn
namespace Go.Proofs.YtdgigbopibdflaaGreatDoor.T
set_option linter.unusedSimpArgs false
set_option linter.unusedVariables false
open Go Go.Hw
set_option maxRecDepth 100000
theorem u0:Tryz.prog.underlying 0=some (.tuple ([]).toArray):=by kernel_rfl
theorem z0:Tryz.prog.sz 0=some 1:=by kernel_rfl
theorem u3:Tryz.prog.underlying 3=some (.int .i64):=by kernel_rfl
theorem z3:Tryz.prog.sz 3=some 1:=by kernel_rfl
theorem zr3:Tryz.prog.zr 3=some ((([.int .i64 0]:List Value)).toArray):=by kernel_rfl
theorem u4:Tryz.prog.underlying 4=some .bool:=by kernel_rfl
theorem z4:Tryz.prog.sz 4=some 1:=by kernel_rfl
theorem zr4:Tryz.prog.zr 4=some ((([.bool false]:List Value)).toArray):=by kernel_rfl
theorem z5:Tryz.prog.sz 5=some 1:=by kernel_rfl
theorem u8:Tryz.prog.underlying 8=some (.struct ([{ name:="x",type:=2,offset:=0,embedded:=false,tag:="",pkgPath:="runtime",byteOffset:=0 },{ name:="y",type:=3,offset:=1,embedded:=false,tag:="",pkgPath:="runtime",byteOffset:=8 },{ name:="signed",type:=4,offset:=2,embedded:=false,tag:="",pkgPath:="runtime",byteOffset:=16 },{ name:="code",type:=6,offset:=3,embedded:=false,tag:="",pkgPath:="runtime",byteOffset:=17 }]).toArray):=by kernel_rfl
theorem u9:Tryz.prog.underlying 9=some .string:=by kernel_rfl
theorem z9:Tryz.prog.sz 9=some 1:=by kernel_rfl
theorem z22:Tryz.prog.sz 22=some 3:=by kernel_rfl
theorem u23:Tryz.prog.underlying 23=some (.struct ([{ name:="Kind",type:=3,offset:=0,embedded:=false,tag:="",pkgPath:="",byteOffset:=0 },{ name:="N",type:=3,offset:=1,embedded:=false,tag:="",pkgPath:="",byteOffset:=8 },{ name:="S",type:=9,offset:=2,embedded:=false,tag:="",pkgPath:="",byteOffset:=16 }]).toArray):=by kernel_rfl
theorem z23:Tryz.prog.sz 23=some 3:=by kernel_rfl
theorem zr23:Tryz.prog.zr 23=some ((([.int .i64 0,.int .i64 0,.string ⟨#[]⟩]:List Value)).toArray):=by kernel_rfl
theorem u24:Tryz.prog.underlying 24=some (.slice 23):=by kernel_rfl
theorem z24:Tryz.prog.sz 24=some 1:=by kernel_rfl
theorem zr24:Tryz.prog.zr 24=some ((([.slice none 0 0]:List Value)).toArray):=by kernel_rfl
theorem z25:Tryz.prog.sz 25=some 5:=by kernel_rfl
theorem u26:Tryz.prog.underlying 26=some (.struct ([{ name:="By",type:=23,offset:=0,embedded:=false,tag:="",pkgPath:="",byteOffset:=0 },{ name:="Name",type:=9,offset:=3,embedded:=false,tag:="",pkgPath:="",byteOffset:=32 },{ name:="Args",type:=24,offset:=4,embedded:=false,tag:="",pkgPath:="",byteOffset:=48 }]).toArray):=by kernel_rfl
theorem z26:Tryz.prog.sz 26=some 5:=by kernel_rfl
theorem zr26:Tryz.prog.zr 26=some ((([.int .i64 0,.int .i64 0,.string ⟨#[]⟩,.string ⟨#[]⟩,.slice none 0 0]:List Value)).toArray):=by kernel_rfl
theorem u27:Tryz.prog.underlying 27=some (.slice 26):=by kernel_rfl
theorem z27:Tryz.prog.sz 27=some 1:=by kernel_rfl
theorem u28:Tryz.prog.underlying 28=some (.slice 85):=by kernel_rfl
theorem z28:Tryz.prog.sz 28=some 1:=by kernel_rfl
theorem u30:Tryz.prog.underlying 30=some (.struct ([{ name:="Head",type:=26,offset:=0,embedded:=false,tag:="",pkgPath:="",byteOffset:=0 },{ name:="Body",type:=27,offset:=5,embedded:=false,tag:="",pkgPath:="",byteOffset:=72 },{ name:="Tests",type:=28,offset:=6,embedded:=false,tag:="",pkgPath:="",byteOffset:=96 }]).toArray):=by kernel_rfl
theorem z30:Tryz.prog.sz 30=some 7:=by kernel_rfl
theorem zr30:Tryz.prog.zr 30=some ((([.int .i64 0,.int .i64 0,.string ⟨#[]⟩,.string ⟨#[]⟩,.slice none 0 0,.slice none 0 0,.slice none 0 0]:List Value)).toArray):=by kernel_rfl
theorem u32:Tryz.prog.underlying 32=some (.slice 3):=by kernel_rfl
theorem z32:Tryz.prog.sz 32=some 1:=by kernel_rfl
theorem zr32:Tryz.prog.zr 32=some ((([.slice none 0 0]:List Value)).toArray):=by kernel_rfl
theorem u33:Tryz.prog.underlying 33=some (.slice 93):=by kernel_rfl
theorem z33:Tryz.prog.sz 33=some 1:=by kernel_rfl
theorem u35:Tryz.prog.underlying 35=some (.struct ([{ name:="Ahead",type:=32,offset:=0,embedded:=false,tag:="",pkgPath:="",byteOffset:=0 },{ name:="Joins",type:=33,offset:=1,embedded:=false,tag:="",pkgPath:="",byteOffset:=24 }]).toArray):=by kernel_rfl
theorem z35:Tryz.prog.sz 35=some 2:=by kernel_rfl
theorem zr35:Tryz.prog.zr 35=some ((([.slice none 0 0,.slice none 0 0]:List Value)).toArray):=by kernel_rfl
theorem z39:Tryz.prog.sz 39=some 1:=by kernel_rfl
theorem z45:Tryz.prog.sz 45=some 1:=by kernel_rfl
theorem z46:Tryz.prog.sz 46=some 1:=by kernel_rfl
theorem u49:Tryz.prog.underlying 49=some (.slice 24):=by kernel_rfl
theorem z50:Tryz.prog.sz 50=some 1:=by kernel_rfl
theorem u52:Tryz.prog.underlying 52=some (.pointer 134):=by kernel_rfl
theorem z53:Tryz.prog.sz 53=some 1:=by kernel_rfl
theorem z55:Tryz.prog.sz 55=some 2:=by kernel_rfl
theorem z66:Tryz.prog.sz 66=some 1:=by kernel_rfl
theorem z70:Tryz.prog.sz 70=some 10:=by kernel_rfl
theorem z76:Tryz.prog.sz 76=some 4:=by kernel_rfl
theorem z77:Tryz.prog.sz 77=some 1:=by kernel_rfl
theorem u85:Tryz.prog.underlying 85=some (.struct ([{ name:="Op",type:=3,offset:=0,embedded:=false,tag:="",pkgPath:="",byteOffset:=0 },{ name:="L",type:=23,offset:=1,embedded:=false,tag:="",pkgPath:="",byteOffset:=8 },{ name:="R",type:=23,offset:=4,embedded:=false,tag:="",pkgPath:="",byteOffset:=40 }]).toArray):=by kernel_rfl
theorem z85:Tryz.prog.sz 85=some 7:=by kernel_rfl
theorem zr85:Tryz.prog.zr 85=some ((([.int .i64 0,.int .i64 0,.int .i64 0,.string ⟨#[]⟩,.int .i64 0,.int .i64 0,.string ⟨#[]⟩]:List Value)).toArray):=by kernel_rfl
theorem u87:Tryz.prog.underlying 87=some (.map 3 3):=by kernel_rfl
theorem z87:Tryz.prog.sz 87=some 1:=by kernel_rfl
theorem zr87:Tryz.prog.zr 87=some ((([.map none]:List Value)).toArray):=by kernel_rfl
theorem u93:Tryz.prog.underlying 93=some (.struct ([{ name:="Atom",type:=3,offset:=0,embedded:=false,tag:="",pkgPath:="",byteOffset:=0 },{ name:="Known",type:=32,offset:=1,embedded:=false,tag:="",pkgPath:="",byteOffset:=8 },{ name:="Tests",type:=32,offset:=2,embedded:=false,tag:="",pkgPath:="",byteOffset:=32 }]).toArray):=by kernel_rfl
theorem z93:Tryz.prog.sz 93=some 3:=by kernel_rfl
theorem zr93:Tryz.prog.zr 93=some ((([.int .i64 0,.slice none 0 0,.slice none 0 0]:List Value)).toArray):=by kernel_rfl
theorem u107:Tryz.prog.underlying 107=some (.slice 110):=by kernel_rfl
theorem u110:Tryz.prog.underlying 110=some (.slice 181):=by kernel_rfl
theorem z110:Tryz.prog.sz 110=some 1:=by kernel_rfl
theorem zr110:Tryz.prog.zr 110=some ((([.slice none 0 0]:List Value)).toArray):=by kernel_rfl
theorem u134:Tryz.prog.underlying 134=some (.struct ([{ name:="table",type:=131,offset:=0,embedded:=true,tag:="",pkgPath:="hearsay/base",byteOffset:=0 },{ name:="rels",type:=132,offset:=2,embedded:=false,tag:="",pkgPath:="hearsay/base",byteOffset:=32 }]).toArray):=by kernel_rfl
theorem zr134:Tryz.prog.zr 134=some ((([.map none,.slice none 0 0,.map none]:List Value)).toArray):=by kernel_rfl
theorem u161:Tryz.prog.underlying 161=some (.func ([30]).toArray ([36]).toArray false):=by kernel_rfl
theorem u181:Tryz.prog.underlying 181=some (.struct ([{ name:="Var",type:=3,offset:=0,embedded:=false,tag:="",pkgPath:="",byteOffset:=0 },{ name:="To",type:=23,offset:=1,embedded:=false,tag:="",pkgPath:="",byteOffset:=8 }]).toArray):=by kernel_rfl
theorem z181:Tryz.prog.sz 181=some 4:=by kernel_rfl
theorem zr181:Tryz.prog.zr 181=some ((([.int .i64 0,.int .i64 0,.int .i64 0,.string ⟨#[]⟩]:List Value)).toArray):=by kernel_rfl
theorem u200:Tryz.prog.underlying 200=some (.struct ([{ name:="look",type:=161,offset:=0,embedded:=false,tag:="",pkgPath:="hearsay/clause",byteOffset:=0 }]).toArray):=by kernel_rfl
theorem z200:Tryz.prog.sz 200=some 1:=by kernel_rfl
theorem zr200:Tryz.prog.zr 200=some ((([.nilFunc]:List Value)).toArray):=by kernel_rfl
theorem u201:Tryz.prog.underlying 201=some (.array 6 200):=by kernel_rfl
theorem z201:Tryz.prog.sz 201=some 6:=by kernel_rfl
end Go.Proofs.YtdgigbopibdflaaGreatDoor.T
