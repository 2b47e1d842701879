/- Short names. -/
import Derived.WalkKit
namespace Go
set_option linter.unusedSimpArgs false
set_option linter.unusedVariables false
abbrev xA:=@List.mem_append_left
abbrev xB:=@List.mem_append_right
abbrev xC:=@List.mem_of_getElem?
abbrev xD:=@List.getElem?_eq_getElem
abbrev xE:=@List.length_map
abbrev xF:=@List.append_assoc
abbrev xG:=@List.getElem?_map
abbrev xH:=@Option.some.inj
abbrev xI:=@List.mem_singleton
abbrev xJ:=@List.length_take
abbrev xK:=@List.take_of_length_le
abbrev xL:=@List.length_append
abbrev xM:=@Nat.zero_add
abbrev xN:=@Int.toNat_natCast
abbrev xO:=@decide_eq_true
abbrev xP:=@decide_eq_false
abbrev xQ:=@List.length_singleton
abbrev xR:=@List.mem_map
abbrev xS:=@List.mem_append
abbrev xT:=@List.map_append
abbrev xU:=@List.getElem?_eq_none
abbrev xV:=@List.drop_eq_nil_of_le
abbrev xW:=@List.nil_append
abbrev xX:=@List.append_nil
abbrev xY:=@Bool.and_eq_true
abbrev xZ:=@List.mem_cons_of_mem
abbrev yA:=@List.map_cons
abbrev yB:=@List.map_nil
abbrev yC:=@Nat.add_assoc
abbrev yD:=@List.getD_eq_getElem?_getD
abbrev yE:=@List.mem_cons
theorem yF {α:Type _}{a0:α}{l:List α}:a0∈a0::l:=.head _
theorem yG {α:Type _}{a0 a1:α}{l:List α}:a1∈a0::a1::l:=.tail _ (.head _)
theorem yH {α:Type _}{a0 a1 a2:α}{l:List α}:a2∈a0::a1::a2::l:=.tail _ (.tail _ (.head _))
theorem yI {α:Type _}{a0 a1 a2 a3:α}{l:List α}:a3∈a0::a1::a2::a3::l:=.tail _ (.tail _ (.tail _ (.head _)))
theorem yJ {α:Type _}{a0 a1 a2 a3 a4:α}{l:List α}:a4∈a0::a1::a2::a3::a4::l:=.tail _ (.tail _ (.tail _ (.tail _ (.head _))))
theorem yK {α:Type _}{a0 a1 a2 a3 a4 a5:α}{l:List α}:a5∈a0::a1::a2::a3::a4::a5::l:=.tail _ (.tail _ (.tail _ (.tail _ (.tail _ (.head _)))))
theorem yL {α:Type _}{a0 a1 a2 a3 a4 a5 a6:α}{l:List α}:a6∈a0::a1::a2::a3::a4::a5::a6::l:=.tail _ (.tail _ (.tail _ (.tail _ (.tail _ (.tail _ (.head _))))))
theorem yM {α:Type _}{a0 a1 a2 a3 a4 a5 a6 a7:α}{l:List α}:a7∈a0::a1::a2::a3::a4::a5::a6::a7::l:=.tail _ (.tail _ (.tail _ (.tail _ (.tail _ (.tail _ (.tail _ (.head _)))))))
theorem yN {α:Type _}{a0 a1 a2 a3 a4 a5 a6 a7 a8:α}{l:List α}:a8∈a0::a1::a2::a3::a4::a5::a6::a7::a8::l:=.tail _ (.tail _ (.tail _ (.tail _ (.tail _ (.tail _ (.tail _ (.tail _ (.head _))))))))
theorem yO {α:Type _}{a0 a1 a2 a3 a4 a5 a6 a7 a8 a9:α}{l:List α}:a9∈a0::a1::a2::a3::a4::a5::a6::a7::a8::a9::l:=.tail _ (.tail _ (.tail _ (.tail _ (.tail _ (.tail _ (.tail _ (.tail _ (.tail _ (.head _)))))))))
theorem yP {α:Type _}{a0 a1 a2 a3 a4 a5 a6 a7 a8 a9 a10:α}{l:List α}:a10∈a0::a1::a2::a3::a4::a5::a6::a7::a8::a9::a10::l:=.tail _ (.tail _ (.tail _ (.tail _ (.tail _ (.tail _ (.tail _ (.tail _ (.tail _ (.tail _ (.head _))))))))))
theorem yQ {α:Type _}{a0 a1 a2 a3 a4 a5 a6 a7 a8 a9 a10 a11:α}{l:List α}:a11∈a0::a1::a2::a3::a4::a5::a6::a7::a8::a9::a10::a11::l:=.tail _ (.tail _ (.tail _ (.tail _ (.tail _ (.tail _ (.tail _ (.tail _ (.tail _ (.tail _ (.tail _ (.head _)))))))))))
theorem yR {α:Type _}{a0 a1 a2 a3 a4 a5 a6 a7 a8 a9 a10 a11 a12:α}{l:List α}:a12∈a0::a1::a2::a3::a4::a5::a6::a7::a8::a9::a10::a11::a12::l:=.tail _ (.tail _ (.tail _ (.tail _ (.tail _ (.tail _ (.tail _ (.tail _ (.tail _ (.tail _ (.tail _ (.tail _ (.head _))))))))))))
theorem yS {α:Type _}{a0 a1 a2 a3 a4 a5 a6 a7 a8 a9 a10 a11 a12 a13:α}{l:List α}:a13∈a0::a1::a2::a3::a4::a5::a6::a7::a8::a9::a10::a11::a12::a13::l:=.tail _ (.tail _ (.tail _ (.tail _ (.tail _ (.tail _ (.tail _ (.tail _ (.tail _ (.tail _ (.tail _ (.tail _ (.tail _ (.head _)))))))))))))
theorem yT {α:Type _}{a b:α}{l:List α}(h:a∈l):a∈b::l:=.tail _ h
theorem yU {n m:Nat}(h:Nat.ble n m=true:=by exact rfl):n≤m:=Nat.le_of_ble_eq_true h
abbrev yX (b:Nat):Value:=.pointer (some ⟨b,0,none⟩)
end Go
