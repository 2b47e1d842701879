/- What the types of the loaded program are. Printed by mktypes.py. -/
import Derived.Test.YtgebaodagaecmaaGreatDoorProg
import Derived.Test.YtgebaodagaecmaaGreatDoorHxTurn
namespace Go.Proofs.YtgebaodagaecmaaGreatDoor.T
set_option linter.unusedSimpArgs false
set_option linter.unusedVariables false
open Go Go.Hw
set_option maxRecDepth 100000
theorem u0:Tryz.prog.underlying 0=some (.tuple ([]).toArray):=by kernel_rfl
theorem z0:Tryz.prog.sz 0=some 1:=by kernel_rfl
theorem z1:Tryz.prog.sz 1=some 1:=by kernel_rfl
theorem u2:Tryz.prog.underlying 2=some (.int .i64):=by kernel_rfl
theorem z2:Tryz.prog.sz 2=some 1:=by kernel_rfl
theorem u3:Tryz.prog.underlying 3=some (.int .i64):=by kernel_rfl
theorem z3:Tryz.prog.sz 3=some 1:=by kernel_rfl
theorem zr3:Tryz.prog.zr 3=some ((([.int .i64 0]:List Value)).toArray):=by kernel_rfl
theorem u4:Tryz.prog.underlying 4=some .bool:=by kernel_rfl
theorem z4:Tryz.prog.sz 4=some 1:=by kernel_rfl
theorem zr4:Tryz.prog.zr 4=some ((([.bool false]:List Value)).toArray):=by kernel_rfl
theorem u5:Tryz.prog.underlying 5=some (.int .u8):=by kernel_rfl
theorem z5:Tryz.prog.sz 5=some 1:=by kernel_rfl
theorem zr5:Tryz.prog.zr 5=some ((([.int .u8 0]:List Value)).toArray):=by kernel_rfl
theorem u8:Tryz.prog.underlying 8=some (.struct ([{ name:="x",type:=2,offset:=0,embedded:=false,tag:="",pkgPath:="runtime",byteOffset:=0 },{ name:="y",type:=3,offset:=1,embedded:=false,tag:="",pkgPath:="runtime",byteOffset:=8 },{ name:="signed",type:=4,offset:=2,embedded:=false,tag:="",pkgPath:="runtime",byteOffset:=16 },{ name:="code",type:=6,offset:=3,embedded:=false,tag:="",pkgPath:="runtime",byteOffset:=17 }]).toArray):=by kernel_rfl
theorem u9:Tryz.prog.underlying 9=some .string:=by kernel_rfl
theorem z9:Tryz.prog.sz 9=some 1:=by kernel_rfl
theorem u21:Tryz.prog.underlying 21=some (.int .i32):=by kernel_rfl
theorem u22:Tryz.prog.underlying 22=some (.slice 29):=by kernel_rfl
theorem z22:Tryz.prog.sz 22=some 1:=by kernel_rfl
theorem zr22:Tryz.prog.zr 22=some ((([.slice none 0 0]:List Value)).toArray):=by kernel_rfl
theorem z23:Tryz.prog.sz 23=some 3:=by kernel_rfl
theorem u24:Tryz.prog.underlying 24=some (.struct ([{ name:="Old",type:=22,offset:=0,embedded:=false,tag:="",pkgPath:="",byteOffset:=0 },{ name:="New",type:=22,offset:=1,embedded:=false,tag:="",pkgPath:="",byteOffset:=24 },{ name:="Next",type:=22,offset:=2,embedded:=false,tag:="",pkgPath:="",byteOffset:=48 }]).toArray):=by kernel_rfl
theorem z24:Tryz.prog.sz 24=some 3:=by kernel_rfl
theorem z25:Tryz.prog.sz 25=some 3:=by kernel_rfl
theorem u26:Tryz.prog.underlying 26=some (.struct ([{ name:="Kind",type:=3,offset:=0,embedded:=false,tag:="",pkgPath:="",byteOffset:=0 },{ name:="N",type:=3,offset:=1,embedded:=false,tag:="",pkgPath:="",byteOffset:=8 },{ name:="S",type:=9,offset:=2,embedded:=false,tag:="",pkgPath:="",byteOffset:=16 }]).toArray):=by kernel_rfl
theorem z26:Tryz.prog.sz 26=some 3:=by kernel_rfl
theorem zr26:Tryz.prog.zr 26=some ((([.int .i64 0,.int .i64 0,.string ⟨#[]⟩]:List Value)).toArray):=by kernel_rfl
theorem u27:Tryz.prog.underlying 27=some (.slice 26):=by kernel_rfl
theorem z27:Tryz.prog.sz 27=some 1:=by kernel_rfl
theorem zr27:Tryz.prog.zr 27=some ((([.slice none 0 0]:List Value)).toArray):=by kernel_rfl
theorem u29:Tryz.prog.underlying 29=some (.struct ([{ name:="By",type:=26,offset:=0,embedded:=false,tag:="",pkgPath:="",byteOffset:=0 },{ name:="Name",type:=9,offset:=3,embedded:=false,tag:="",pkgPath:="",byteOffset:=32 },{ name:="Args",type:=27,offset:=4,embedded:=false,tag:="",pkgPath:="",byteOffset:=48 }]).toArray):=by kernel_rfl
theorem z29:Tryz.prog.sz 29=some 5:=by kernel_rfl
theorem zr29:Tryz.prog.zr 29=some ((([.int .i64 0,.int .i64 0,.string ⟨#[]⟩,.string ⟨#[]⟩,.slice none 0 0]:List Value)).toArray):=by kernel_rfl
theorem u30:Tryz.prog.underlying 30=some (.slice 61):=by kernel_rfl
theorem z30:Tryz.prog.sz 30=some 1:=by kernel_rfl
theorem u32:Tryz.prog.underlying 32=some (.struct ([{ name:="Head",type:=29,offset:=0,embedded:=false,tag:="",pkgPath:="",byteOffset:=0 },{ name:="Body",type:=22,offset:=5,embedded:=false,tag:="",pkgPath:="",byteOffset:=72 },{ name:="Tests",type:=30,offset:=6,embedded:=false,tag:="",pkgPath:="",byteOffset:=96 }]).toArray):=by kernel_rfl
theorem z32:Tryz.prog.sz 32=some 7:=by kernel_rfl
theorem zr32:Tryz.prog.zr 32=some ((([.int .i64 0,.int .i64 0,.string ⟨#[]⟩,.string ⟨#[]⟩,.slice none 0 0,.slice none 0 0,.slice none 0 0]:List Value)).toArray):=by kernel_rfl
theorem u35:Tryz.prog.underlying 35=some (.pointer 105):=by kernel_rfl
theorem z35:Tryz.prog.sz 35=some 1:=by kernel_rfl
theorem z36:Tryz.prog.sz 36=some 1:=by kernel_rfl
theorem u39:Tryz.prog.underlying 39=some (.slice 27):=by kernel_rfl
theorem z39:Tryz.prog.sz 39=some 1:=by kernel_rfl
theorem z41:Tryz.prog.sz 41=some 1:=by kernel_rfl
theorem z44:Tryz.prog.sz 44=some 1:=by kernel_rfl
theorem z45:Tryz.prog.sz 45=some 1:=by kernel_rfl
theorem z46:Tryz.prog.sz 46=some 1:=by kernel_rfl
theorem z50:Tryz.prog.sz 50=some 1:=by kernel_rfl
theorem u51:Tryz.prog.underlying 51=some (.slice 3):=by kernel_rfl
theorem z51:Tryz.prog.sz 51=some 1:=by kernel_rfl
theorem zr51:Tryz.prog.zr 51=some ((([.slice none 0 0]:List Value)).toArray):=by kernel_rfl
theorem z53:Tryz.prog.sz 53=some 1:=by kernel_rfl
theorem u54:Tryz.prog.underlying 54=some (.slice 64):=by kernel_rfl
theorem z54:Tryz.prog.sz 54=some 1:=by kernel_rfl
theorem zr54:Tryz.prog.zr 54=some ((([.slice none 0 0]:List Value)).toArray):=by kernel_rfl
theorem z55:Tryz.prog.sz 55=some 1:=by kernel_rfl
theorem z57:Tryz.prog.sz 57=some 1:=by kernel_rfl
theorem u61:Tryz.prog.underlying 61=some (.struct ([{ name:="Op",type:=3,offset:=0,embedded:=false,tag:="",pkgPath:="",byteOffset:=0 },{ name:="L",type:=26,offset:=1,embedded:=false,tag:="",pkgPath:="",byteOffset:=8 },{ name:="R",type:=26,offset:=4,embedded:=false,tag:="",pkgPath:="",byteOffset:=40 }]).toArray):=by kernel_rfl
theorem z61:Tryz.prog.sz 61=some 7:=by kernel_rfl
theorem zr61:Tryz.prog.zr 61=some ((([.int .i64 0,.int .i64 0,.int .i64 0,.string ⟨#[]⟩,.int .i64 0,.int .i64 0,.string ⟨#[]⟩]:List Value)).toArray):=by kernel_rfl
theorem z63:Tryz.prog.sz 63=some 4:=by kernel_rfl
theorem u64:Tryz.prog.underlying 64=some (.struct ([{ name:="Var",type:=3,offset:=0,embedded:=false,tag:="",pkgPath:="",byteOffset:=0 },{ name:="To",type:=26,offset:=1,embedded:=false,tag:="",pkgPath:="",byteOffset:=8 }]).toArray):=by kernel_rfl
theorem z64:Tryz.prog.sz 64=some 4:=by kernel_rfl
theorem zr64:Tryz.prog.zr 64=some ((([.int .i64 0,.int .i64 0,.int .i64 0,.string ⟨#[]⟩]:List Value)).toArray):=by kernel_rfl
theorem z66:Tryz.prog.sz 66=some 1:=by kernel_rfl
theorem z70:Tryz.prog.sz 70=some 1:=by kernel_rfl
theorem z76:Tryz.prog.sz 76=some 1:=by kernel_rfl
theorem z77:Tryz.prog.sz 77=some 1:=by kernel_rfl
theorem u79:Tryz.prog.underlying 79=some (.array 9 3):=by kernel_rfl
theorem z79:Tryz.prog.sz 79=some 9:=by kernel_rfl
theorem zr79:Tryz.prog.zr 79=some ((List.replicate 9 (.int .i64 0)).toArray):=by kernel_rfl
theorem u81:Tryz.prog.underlying 81=some (.map 3 3):=by kernel_rfl
theorem z81:Tryz.prog.sz 81=some 1:=by kernel_rfl
theorem zr81:Tryz.prog.zr 81=some ((([.map none]:List Value)).toArray):=by kernel_rfl
theorem u85:Tryz.prog.underlying 85=some (.slice 141):=by kernel_rfl
theorem z85:Tryz.prog.sz 85=some 1:=by kernel_rfl
theorem u87:Tryz.prog.underlying 87=some (.struct ([{ name:="Ahead",type:=51,offset:=0,embedded:=false,tag:="",pkgPath:="",byteOffset:=0 },{ name:="Joins",type:=85,offset:=1,embedded:=false,tag:="",pkgPath:="",byteOffset:=24 }]).toArray):=by kernel_rfl
theorem z87:Tryz.prog.sz 87=some 2:=by kernel_rfl
theorem zr87:Tryz.prog.zr 87=some ((([.slice none 0 0,.slice none 0 0]:List Value)).toArray):=by kernel_rfl
theorem u90:Tryz.prog.underlying 90=some (.slice 54):=by kernel_rfl
theorem u100:Tryz.prog.underlying 100=some (.map 26 3):=by kernel_rfl
theorem z100:Tryz.prog.sz 100=some 1:=by kernel_rfl
theorem u102:Tryz.prog.underlying 102=some (.struct ([{ name:="numbers",type:=100,offset:=0,embedded:=false,tag:="",pkgPath:="hearsay/base",byteOffset:=0 },{ name:="values",type:=27,offset:=1,embedded:=false,tag:="",pkgPath:="hearsay/base",byteOffset:=8 }]).toArray):=by kernel_rfl
theorem u103:Tryz.prog.underlying 103=some (.map 107 108):=by kernel_rfl
theorem u105:Tryz.prog.underlying 105=some (.struct ([{ name:="table",type:=102,offset:=0,embedded:=true,tag:="",pkgPath:="hearsay/base",byteOffset:=0 },{ name:="rels",type:=103,offset:=2,embedded:=false,tag:="",pkgPath:="hearsay/base",byteOffset:=32 }]).toArray):=by kernel_rfl
theorem zr105:Tryz.prog.zr 105=some ((([.map none,.slice none 0 0,.map none]:List Value)).toArray):=by kernel_rfl
theorem u107:Tryz.prog.underlying 107=some (.struct ([{ name:="Name",type:=9,offset:=0,embedded:=false,tag:="",pkgPath:="",byteOffset:=0 },{ name:="Arity",type:=3,offset:=1,embedded:=false,tag:="",pkgPath:="",byteOffset:=16 }]).toArray):=by kernel_rfl
theorem z107:Tryz.prog.sz 107=some 2:=by kernel_rfl
theorem zr107:Tryz.prog.zr 107=some ((([.string ⟨#[]⟩,.int .i64 0]:List Value)).toArray):=by kernel_rfl
theorem u108:Tryz.prog.underlying 108=some (.pointer 169):=by kernel_rfl
theorem u109:Tryz.prog.underlying 109=some (.slice 51):=by kernel_rfl
theorem z109:Tryz.prog.sz 109=some 1:=by kernel_rfl
theorem zr109:Tryz.prog.zr 109=some ((([.slice none 0 0]:List Value)).toArray):=by kernel_rfl
theorem u141:Tryz.prog.underlying 141=some (.struct ([{ name:="Atom",type:=3,offset:=0,embedded:=false,tag:="",pkgPath:="",byteOffset:=0 },{ name:="Known",type:=51,offset:=1,embedded:=false,tag:="",pkgPath:="",byteOffset:=8 },{ name:="Tests",type:=51,offset:=2,embedded:=false,tag:="",pkgPath:="",byteOffset:=32 }]).toArray):=by kernel_rfl
theorem z141:Tryz.prog.sz 141=some 3:=by kernel_rfl
theorem zr141:Tryz.prog.zr 141=some ((([.int .i64 0,.slice none 0 0,.slice none 0 0]:List Value)).toArray):=by kernel_rfl
theorem u145:Tryz.prog.underlying 145=some (.struct ([{ name:="facts",type:=22,offset:=0,embedded:=false,tag:="",pkgPath:="hearsay/plan",byteOffset:=0 },{ name:="tried",type:=3,offset:=1,embedded:=false,tag:="",pkgPath:="hearsay/plan",byteOffset:=24 },{ name:="ahead",type:=54,offset:=2,embedded:=false,tag:="",pkgPath:="hearsay/plan",byteOffset:=32 }]).toArray):=by kernel_rfl
theorem z145:Tryz.prog.sz 145=some 3:=by kernel_rfl
theorem zr145:Tryz.prog.zr 145=some ((([.slice none 0 0,.int .i64 0,.slice none 0 0]:List Value)).toArray):=by kernel_rfl
theorem u147:Tryz.prog.underlying 147=some (.slice 145):=by kernel_rfl
theorem u151:Tryz.prog.underlying 151=some (.int .u64):=by kernel_rfl
theorem u157:Tryz.prog.underlying 157=some (.map 9 181):=by kernel_rfl
theorem u158:Tryz.prog.underlying 158=some (.slice 181):=by kernel_rfl
theorem z158:Tryz.prog.sz 158=some 1:=by kernel_rfl
theorem u159:Tryz.prog.underlying 159=some (.array 8 3):=by kernel_rfl
theorem u160:Tryz.prog.underlying 160=some (.map 9 208):=by kernel_rfl
theorem u165:Tryz.prog.underlying 165=some (.struct ([{ name:="state",type:=21,offset:=0,embedded:=false,tag:="",pkgPath:="internal/sync",byteOffset:=0 },{ name:="sema",type:=163,offset:=1,embedded:=false,tag:="",pkgPath:="internal/sync",byteOffset:=4 }]).toArray):=by kernel_rfl
theorem u167:Tryz.prog.underlying 167=some (.struct ([{ name:="_",type:=162,offset:=0,embedded:=false,tag:="",pkgPath:="sync",byteOffset:=0 },{ name:="mu",type:=165,offset:=0,embedded:=false,tag:="",pkgPath:="sync",byteOffset:=0 }]).toArray):=by kernel_rfl
theorem u169:Tryz.prog.underlying 169=some (.struct ([{ name:="width",type:=3,offset:=0,embedded:=false,tag:="",pkgPath:="hearsay/rel",byteOffset:=0 },{ name:="rows",type:=157,offset:=1,embedded:=false,tag:="",pkgPath:="hearsay/rel",byteOffset:=8 },{ name:="fresh",type:=158,offset:=2,embedded:=false,tag:="",pkgPath:="hearsay/rel",byteOffset:=16 },{ name:="next",type:=158,offset:=3,embedded:=false,tag:="",pkgPath:="hearsay/rel",byteOffset:=40 },{ name:="count",type:=159,offset:=4,embedded:=false,tag:="",pkgPath:="hearsay/rel",byteOffset:=64 },{ name:="indexes",type:=160,offset:=12,embedded:=false,tag:="",pkgPath:="hearsay/rel",byteOffset:=128 },{ name:="making",type:=167,offset:=13,embedded:=false,tag:="",pkgPath:="hearsay/rel",byteOffset:=136 }]).toArray):=by kernel_rfl
theorem zr169:Tryz.prog.zr 169=some ((([.int .i64 0,.map none,.slice none 0 0,.slice none 0 0,.int .i64 0,.int .i64 0,.int .i64 0,.int .i64 0,.int .i64 0,.int .i64 0,.int .i64 0,.int .i64 0,.map none,.int .i32 0,.int .u32 0]:List Value)).toArray):=by kernel_rfl
theorem u175:Tryz.prog.underlying 175=some (.map 3 26):=by kernel_rfl
theorem u181:Tryz.prog.underlying 181=some (.pointer 184):=by kernel_rfl
theorem z181:Tryz.prog.sz 181=some 1:=by kernel_rfl
theorem zr181:Tryz.prog.zr 181=some ((([.pointer none]:List Value)).toArray):=by kernel_rfl
theorem u184:Tryz.prog.underlying 184=some (.struct ([{ name:="row",type:=51,offset:=0,embedded:=false,tag:="",pkgPath:="hearsay/rel",byteOffset:=0 },{ name:="part",type:=3,offset:=1,embedded:=false,tag:="",pkgPath:="hearsay/rel",byteOffset:=24 }]).toArray):=by kernel_rfl
theorem zr184:Tryz.prog.zr 184=some ((([.slice none 0 0,.int .i64 0]:List Value)).toArray):=by kernel_rfl
theorem u189:Tryz.prog.underlying 189=some (.func ([32]).toArray ([40]).toArray false):=by kernel_rfl
theorem u205:Tryz.prog.underlying 205=some (.int .u64):=by kernel_rfl
theorem u208:Tryz.prog.underlying 208=some (.pointer 215):=by kernel_rfl
theorem u213:Tryz.prog.underlying 213=some (.map 9 158):=by kernel_rfl
theorem u215:Tryz.prog.underlying 215=some (.struct ([{ name:="cols",type:=51,offset:=0,embedded:=false,tag:="",pkgPath:="hearsay/rel",byteOffset:=0 },{ name:="rows",type:=213,offset:=1,embedded:=false,tag:="",pkgPath:="hearsay/rel",byteOffset:=24 }]).toArray):=by kernel_rfl
theorem zr215:Tryz.prog.zr 215=some ((([.slice none 0 0,.map none]:List Value)).toArray):=by kernel_rfl
theorem u227:Tryz.prog.underlying 227=some (.slice 5):=by kernel_rfl
theorem u231:Tryz.prog.underlying 231=some (.struct ([{ name:="look",type:=189,offset:=0,embedded:=false,tag:="",pkgPath:="hearsay/clause",byteOffset:=0 }]).toArray):=by kernel_rfl
theorem z231:Tryz.prog.sz 231=some 1:=by kernel_rfl
theorem zr231:Tryz.prog.zr 231=some ((([.nilFunc]:List Value)).toArray):=by kernel_rfl
theorem u232:Tryz.prog.underlying 232=some (.array 6 231):=by kernel_rfl
theorem z232:Tryz.prog.sz 232=some 6:=by kernel_rfl
theorem u270:Tryz.prog.underlying 270=some (.pointer 165):=by kernel_rfl
theorem u274:Tryz.prog.underlying 274=some .unsafePointer:=by kernel_rfl
theorem u296:Tryz.prog.underlying 296=some (.array 65 5):=by kernel_rfl
theorem zr296:Tryz.prog.zr 296=some ((u8s (List.replicate 65 0)).toArray):=by kernel_rfl
end Go.Proofs.YtgebaodagaecmaaGreatDoor.T
