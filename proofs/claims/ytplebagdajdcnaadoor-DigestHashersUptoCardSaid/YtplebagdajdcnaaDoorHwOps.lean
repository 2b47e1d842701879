/- One lemma an operation that only reads. -/
import Derived.Test.YtplebagdajdcnaaDoorHwCore
namespace Go.Hw
set_option linter.unusedVariables false
set_option linter.unusedSimpArgs false
open Go Go.RowKit
variable {P : Program} {n : Nat} {ds : List Deferred} {e : Env} {S : World → Prop} {dst : Option Tmp} {t t' : TypeId} {p : String} {af : Array Edge} {g : Option (Nat × Bool)}
variable {x y z : Operand} {v u : Value}

theorem OV.of_run {op : Op} (h : ∀ a w, Fits n ds e a → S w → (execOp a.eval ⟨dst, op, t, p, af, g⟩).run P w = .ok (.value v) w) : OV P n ds e S ⟨dst, op, t, p, af, g⟩ v := h

theorem OV.move (h : ev e x = some v) : OV P n ds e S ⟨dst, .move x, t, p, af, g⟩ v := fun a w ha _ => by
  simp [execOp, ha.eval h]
theorem OV.assign (h : ev e x = some v) : OV P n ds e S ⟨dst, .assign x, t, p, af, g⟩ v := fun a w ha _ => by
  simp [execOp, ha.eval h]
theorem OV.pickT (hc : ev e z = some (.bool true)) (h : ev e x = some v) : OV P n ds e S ⟨dst, .pick z x y, t, p, af, g⟩ v := fun a w ha _ => by
  simp [execOp, ha.eval h, ha.eval hc, asBool]
theorem OV.pickF (hc : ev e z = some (.bool false)) (h : ev e y = some v) : OV P n ds e S ⟨dst, .pick z x y, t, p, af, g⟩ v := fun a w ha _ => by
  simp [execOp, ha.eval h, ha.eval hc, asBool]

section ints
variable {k k' : IntKind} {a b : Int} {xt yt : TypeId}
theorem OV.add (hx : ev e x = some (.int k a)) (hy : ev e y = some (.int k b)) : OV P n ds e S ⟨dst, .binOp .add xt x y yt, t, p, af, g⟩ (.int k (k.wrap (a + b))) := fun _ w ha _ => by
  simp [execOp, ha.eval hx, ha.eval hy, eqGuard_add, binOp, Op.intArith]
theorem OV.sub (hx : ev e x = some (.int k a)) (hy : ev e y = some (.int k b)) : OV P n ds e S ⟨dst, .binOp .sub xt x y yt, t, p, af, g⟩ (.int k (k.wrap (a - b))) := fun _ w ha _ => by
  simp [execOp, ha.eval hx, ha.eval hy, eqGuard_sub, binOp, Op.intArith]
theorem OV.mul (hx : ev e x = some (.int k a)) (hy : ev e y = some (.int k b)) : OV P n ds e S ⟨dst, .binOp .mul xt x y yt, t, p, af, g⟩ (.int k (k.wrap (a * b))) := fun _ w ha _ => by
  simp [execOp, ha.eval hx, ha.eval hy, eqGuard_mul, binOp, Op.intArith]
theorem OV.quo (hx : ev e x = some (.int k a)) (hy : ev e y = some (.int k b)) (hb : (b == 0) = false) : OV P n ds e S ⟨dst, .binOp .quo xt x y yt, t, p, af, g⟩ (.int k (k.wrap (a.tdiv b))) := fun _ w ha _ => by
  have hb' : b ≠ 0 := by simpa using hb
  simp [execOp, ha.eval hx, ha.eval hy, eqGuard_quo, binOp, Op.intDiv, hb']
theorem OV.rem (hx : ev e x = some (.int k a)) (hy : ev e y = some (.int k b)) (hb : (b == 0) = false) : OV P n ds e S ⟨dst, .binOp .rem xt x y yt, t, p, af, g⟩ (.int k (a.tmod b)) := fun _ w ha _ => by
  have hb' : b ≠ 0 := by simpa using hb
  simp [execOp, ha.eval hx, ha.eval hy, eqGuard_rem, binOp, Op.intDiv, hb']
theorem OV.and (hx : ev e x = some (.int k a)) (hy : ev e y = some (.int k b)) : OV P n ds e S ⟨dst, .binOp .and xt x y yt, t, p, af, g⟩ (.int k (bits .and k a b)) := fun _ w ha _ => by
  simp [execOp, ha.eval hx, ha.eval hy, eqGuard_and, binOp, intBits_and]
theorem OV.or (hx : ev e x = some (.int k a)) (hy : ev e y = some (.int k b)) : OV P n ds e S ⟨dst, .binOp .or xt x y yt, t, p, af, g⟩ (.int k (bits .or k a b)) := fun _ w ha _ => by
  simp [execOp, ha.eval hx, ha.eval hy, eqGuard_or, binOp, intBits_or]
theorem OV.xor (hx : ev e x = some (.int k a)) (hy : ev e y = some (.int k b)) : OV P n ds e S ⟨dst, .binOp .xor xt x y yt, t, p, af, g⟩ (.int k (bits .xor k a b)) := fun _ w ha _ => by
  simp [execOp, ha.eval hx, ha.eval hy, eqGuard_xor, binOp, intBits_xor]
theorem OV.shl (hx : ev e x = some (.int k a)) (hy : ev e y = some (.int k' b)) (hb : decide (0 ≤ b ∧ b ≤ k.bits) = true) :
    OV P n ds e S ⟨dst, .binOp .shl xt x y yt, t, p, af, g⟩ (.int k (k.wrap (a * 2 ^ b.toNat))) := fun _ w ha _ => by
  have hb := of_decide_eq_true hb
  simp [execOp, ha.eval hx, ha.eval hy, eqGuard_shl, binOp_shl, shift_shl k k' a b hb.1 hb.2]
theorem OV.shr (hx : ev e x = some (.int k a)) (hy : ev e y = some (.int k' b)) (hb : decide (0 ≤ b ∧ b ≤ k.bits) = true) :
    OV P n ds e S ⟨dst, .binOp .shr xt x y yt, t, p, af, g⟩ (.int k (a / 2 ^ b.toNat)) := fun _ w ha _ => by
  have hb := of_decide_eq_true hb
  simp [execOp, ha.eval hx, ha.eval hy, eqGuard_shr, binOp_shr, shift_shr k k' a b hb.1 hb.2]
theorem OV.eql (hx : ev e x = some (.int k a)) (hy : ev e y = some (.int k b)) : OV P n ds e S ⟨dst, .binOp .eql xt x y yt, t, p, af, g⟩ (.bool (decide (a = b))) := fun _ w ha _ => by
  simp [execOp, ha.eval hx, ha.eval hy, eqGuard_at_int, binOp_eql]; rfl
theorem OV.neq (hx : ev e x = some (.int k a)) (hy : ev e y = some (.int k b)) : OV P n ds e S ⟨dst, .binOp .neq xt x y yt, t, p, af, g⟩ (.bool (!decide (a = b))) := fun _ w ha _ => by
  simp [execOp, ha.eval hx, ha.eval hy, eqGuard_at_int, binOp_neq, bne]; rfl
theorem OV.lss (hx : ev e x = some (.int k a)) (hy : ev e y = some (.int k b)) : OV P n ds e S ⟨dst, .binOp .lss xt x y yt, t, p, af, g⟩ (.bool (decide (a < b))) := fun _ w ha _ => by
  simp [execOp, ha.eval hx, ha.eval hy, eqGuard_lss, binOp_lss]
theorem OV.leq (hx : ev e x = some (.int k a)) (hy : ev e y = some (.int k b)) : OV P n ds e S ⟨dst, .binOp .leq xt x y yt, t, p, af, g⟩ (.bool (decide (a ≤ b))) := fun _ w ha _ => by
  simp [execOp, ha.eval hx, ha.eval hy, eqGuard_leq, binOp_leq]
theorem OV.gtr (hx : ev e x = some (.int k a)) (hy : ev e y = some (.int k b)) : OV P n ds e S ⟨dst, .binOp .gtr xt x y yt, t, p, af, g⟩ (.bool (decide (b < a))) := fun _ w ha _ => by
  simp [execOp, ha.eval hx, ha.eval hy, eqGuard_gtr, binOp_gtr]
theorem OV.geq (hx : ev e x = some (.int k a)) (hy : ev e y = some (.int k b)) : OV P n ds e S ⟨dst, .binOp .geq xt x y yt, t, p, af, g⟩ (.bool (decide (b ≤ a))) := fun _ w ha _ => by
  simp [execOp, ha.eval hx, ha.eval hy, eqGuard_geq, binOp_geq]
theorem OV.neg (hx : ev e x = some (.int k a)) : OV P n ds e S ⟨dst, .unOp .neg xt x, t, p, af, g⟩ (.int k (k.wrap (-a))) := fun _ w ha _ => by
  simp [execOp, ha.eval hx, Op.unary, Op.intArith]
theorem OV.compl (hx : ev e x = some (.int k a)) : OV P n ds e S ⟨dst, .unOp .xor xt x, t, p, af, g⟩ (.int k (bits .xor k (if k.signed then -1 else k.max) a)) := fun _ w ha _ => by
  simp [execOp, ha.eval hx, Op.unary, intBits_xor]
theorem OV.not {c : Bool} (hx : ev e x = some (.bool c)) : OV P n ds e S ⟨dst, .unOp .not xt x, t, p, af, g⟩ (.bool (!c)) := fun _ w ha _ => by
  simp [execOp, ha.eval hx, Op.unary]
theorem OV.conv {src dst' : TypeId} {d : TypeDesc} (hs : P.underlying src = some d) (hd : P.underlying dst' = some (.int k')) (hx : ev e x = some (.int k a)) :
    OV P n ds e S ⟨dst, .convert src dst' x, t, p, af, g⟩ (.int k' (k'.wrap a)) := fun _ w ha _ => by
  simp [execOp, ha.eval hx, convert, run_underlying hs, run_underlying hd, Conv.intToInt]
end ints

/-! ### Arithmetic that stays in its kind -/
theorem wrap_i64 {a : Int} (h : -9223372036854775808 ≤ a ∧ a ≤ 9223372036854775807) : IntKind.i64.wrap a = a := by
  have := IntWalk.i64_in a (by omega)
  exact this
theorem wrap_u8 {a : Int} (h : 0 ≤ a ∧ a ≤ 255) : IntKind.u8.wrap a = a := by
  simp only [IntKind.wrap, IntKind.bits, IntKind.signed]; simp; omega
theorem wrap_u32 {a : Int} (h : 0 ≤ a ∧ a ≤ 4294967295) : IntKind.u32.wrap a = a := by
  simp only [IntKind.wrap, IntKind.bits, IntKind.signed]; simp; omega
theorem wrap_u64 {a : Int} (h : 0 ≤ a ∧ a ≤ 18446744073709551615) : IntKind.u64.wrap a = a := by
  simp only [IntKind.wrap, IntKind.bits, IntKind.signed]; simp; omega

theorem OV.cast {o : Oper} {v u : Value} (h : OV P n ds e S o v) (hvu : v = u) : OV P n ds e S o u := hvu ▸ h
section
variable {a b : Int} {xt yt : TypeId}
theorem OV.addI (hx : ev e x = some (.int .i64 a)) (hy : ev e y = some (.int .i64 b)) (h : -9223372036854775808 ≤ a + b ∧ a + b ≤ 9223372036854775807) :
    OV P n ds e S ⟨dst, .binOp .add xt x y yt, t, p, af, g⟩ (.int .i64 (a + b)) := (OV.add hx hy).cast (by rw [wrap_i64 h])
theorem OV.subI (hx : ev e x = some (.int .i64 a)) (hy : ev e y = some (.int .i64 b)) (h : -9223372036854775808 ≤ a - b ∧ a - b ≤ 9223372036854775807) :
    OV P n ds e S ⟨dst, .binOp .sub xt x y yt, t, p, af, g⟩ (.int .i64 (a - b)) := (OV.sub hx hy).cast (by rw [wrap_i64 h])
theorem OV.mulI (hx : ev e x = some (.int .i64 a)) (hy : ev e y = some (.int .i64 b)) (h : -9223372036854775808 ≤ a * b ∧ a * b ≤ 9223372036854775807) :
    OV P n ds e S ⟨dst, .binOp .mul xt x y yt, t, p, af, g⟩ (.int .i64 (a * b)) := (OV.mul hx hy).cast (by rw [wrap_i64 h])
theorem OV.quoI (hx : ev e x = some (.int .i64 a)) (hy : ev e y = some (.int .i64 b)) (h : 0 ≤ a ∧ a ≤ 9223372036854775807 ∧ 1 ≤ b) :
    OV P n ds e S ⟨dst, .binOp .quo xt x y yt, t, p, af, g⟩ (.int .i64 (a / b)) := (OV.quo hx hy (by simp; omega)).cast (by
      rw [Int.tdiv_eq_ediv_of_nonneg h.1, wrap_i64]
      have h1 : 0 ≤ a / b := Int.ediv_nonneg h.1 (by omega)
      have h2 : a / b ≤ a := Int.ediv_le_self _ h.1
      omega)
theorem OV.remN {k : IntKind} (hx : ev e x = some (.int k a)) (hy : ev e y = some (.int k b)) (h : 0 ≤ a ∧ 1 ≤ b) :
    OV P n ds e S ⟨dst, .binOp .rem xt x y yt, t, p, af, g⟩ (.int k (a % b)) := (OV.rem hx hy (by simp; omega)).cast (by rw [Int.tmod_eq_emod_of_nonneg h.1])
theorem OV.convI {src dst' : TypeId} {d : TypeDesc} {k : IntKind} (hs : P.underlying src = some d) (hd : P.underlying dst' = some (.int .i64)) (hx : ev e x = some (.int k a)) (h : -9223372036854775808 ≤ a ∧ a ≤ 9223372036854775807) :
    OV P n ds e S ⟨dst, .convert src dst' x, t, p, af, g⟩ (.int .i64 a) := (OV.conv hs hd hx).cast (by rw [wrap_i64 h])
end
end Go.Hw
