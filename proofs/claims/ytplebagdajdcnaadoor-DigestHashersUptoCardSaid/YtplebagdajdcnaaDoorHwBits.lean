/- Operations on bytes and words: as Lean's UInt8, UInt32, UInt64. -/
import Derived.Test.YtplebagdajdcnaaDoorHwRegion
namespace Go.Hw
set_option linter.unusedVariables false
set_option linter.unusedSimpArgs false
open Go Go.RowKit
variable {P : Program} {n : Nat} {ds : List Deferred} {e : Env} {S : World → Prop} {dst : Option Tmp} {t t' : TypeId} {p : String} {af : Array Edge} {g : Option (Nat × Bool)}
variable {x y z : Operand} {v u : Value} {xt yt : TypeId}

abbrev b8 (c : UInt8) : Value := .int .u8 (c.toNat : Int)
abbrev w32 (c : UInt32) : Value := .int .u32 (c.toNat : Int)
abbrev w64 (c : UInt64) : Value := .int .u64 (c.toNat : Int)

theorem wrap32_nat (m : Nat) : IntKind.u32.wrap (m : Int) = ((m % 4294967296 : Nat) : Int) := by
  simp only [IntKind.wrap, IntKind.bits, IntKind.signed]; simp
theorem wrap8_nat (m : Nat) : IntKind.u8.wrap (m : Int) = ((m % 256 : Nat) : Int) := by
  simp only [IntKind.wrap, IntKind.bits, IntKind.signed]; simp
theorem wrap64_nat (m : Nat) : IntKind.u64.wrap (m : Int) = ((m % 18446744073709551616 : Nat) : Int) := by
  simp only [IntKind.wrap, IntKind.bits, IntKind.signed]; simp

theorem bits32 (op : BinOp) (a b : UInt32) : bits op .u32 (a.toNat : Int) (b.toNat : Int) =
    ((match op with | .and => a &&& b | .or => a ||| b | .xor => a ^^^ b | _ => a &&& ~~~b).toNat : Int) := by
  have h : ∀ c : UInt32, BitVec.ofInt 32 (c.toNat : Int) = c.toBitVec := fun c => by
    apply BitVec.eq_of_toNat_eq
    simp [BitVec.toNat_ofInt]
  unfold bits
  simp only [IntKind.bits, h]
  cases op <;> simp only <;> rw [wrap32_nat, Nat.mod_eq_of_lt] <;> first | rfl | (exact BitVec.isLt _)
theorem bits8 (op : BinOp) (a b : UInt8) : bits op .u8 (a.toNat : Int) (b.toNat : Int) =
    ((match op with | .and => a &&& b | .or => a ||| b | .xor => a ^^^ b | _ => a &&& ~~~b).toNat : Int) := by
  have h : ∀ c : UInt8, BitVec.ofInt 8 (c.toNat : Int) = c.toBitVec := fun c => by
    apply BitVec.eq_of_toNat_eq
    simp [BitVec.toNat_ofInt]
  unfold bits
  simp only [IntKind.bits, h]
  cases op <;> simp only <;> rw [wrap8_nat, Nat.mod_eq_of_lt] <;> first | rfl | (exact BitVec.isLt _)

section u32
variable {a b : UInt32}
theorem OV.addW (hx : ev e x = some (w32 a)) (hy : ev e y = some (w32 b)) : OV P n ds e S ⟨dst, .binOp .add xt x y yt, t, p, af, g⟩ (w32 (a + b)) :=
  (OV.add hx hy).cast (by rw [← Int.natCast_add, wrap32_nat, ← UInt32.toNat_add])
theorem OV.xorW (hx : ev e x = some (w32 a)) (hy : ev e y = some (w32 b)) : OV P n ds e S ⟨dst, .binOp .xor xt x y yt, t, p, af, g⟩ (w32 (a ^^^ b)) :=
  (OV.xor hx hy).cast (by rw [bits32])
theorem OV.andW (hx : ev e x = some (w32 a)) (hy : ev e y = some (w32 b)) : OV P n ds e S ⟨dst, .binOp .and xt x y yt, t, p, af, g⟩ (w32 (a &&& b)) :=
  (OV.and hx hy).cast (by rw [bits32])
theorem OV.orW (hx : ev e x = some (w32 a)) (hy : ev e y = some (w32 b)) : OV P n ds e S ⟨dst, .binOp .or xt x y yt, t, p, af, g⟩ (w32 (a ||| b)) :=
  (OV.or hx hy).cast (by rw [bits32])
theorem OV.complW (hx : ev e x = some (w32 a)) : OV P n ds e S ⟨dst, .unOp .xor xt x, t, p, af, g⟩ (w32 (~~~a)) :=
  (OV.compl hx).cast (by
    have h := bits32 .xor (4294967295 : UInt32) a
    have h1 : ((4294967295 : UInt32).toNat : Int) = (if IntKind.u32.signed then -1 else IntKind.u32.max) := by decide
    rw [h1] at h
    rw [h]
    congr 3)
/-- A shift by a constant number of bits. -/
theorem OV.shrW {m : Nat} {k' : IntKind} (hx : ev e x = some (w32 a)) (hy : ev e y = some (.int k' (m : Int))) (hm : Nat.blt m 32 = true) :
    OV P n ds e S ⟨dst, .binOp .shr xt x y yt, t, p, af, g⟩ (w32 (a >>> UInt32.ofNat m)) := by
  have hm : m < 32 := by simpa [Nat.blt_eq] using hm
  refine (OV.shr hx hy (by simp [IntKind.bits]; omega)).cast ?_
  congr 1
  have h1 : (UInt32.ofNat m).toNat % 32 = m := by rw [UInt32.toNat_ofNat']; omega
  rw [UInt32.toNat_shiftRight, h1, Nat.shiftRight_eq_div_pow]
  simp
theorem OV.shlW {m : Nat} {k' : IntKind} (hx : ev e x = some (w32 a)) (hy : ev e y = some (.int k' (m : Int))) (hm : Nat.blt m 32 = true) :
    OV P n ds e S ⟨dst, .binOp .shl xt x y yt, t, p, af, g⟩ (w32 (a <<< UInt32.ofNat m)) := by
  have hm : m < 32 := by simpa [Nat.blt_eq] using hm
  refine (OV.shl hx hy (by simp [IntKind.bits]; omega)).cast ?_
  congr 1
  have h1 : (UInt32.ofNat m).toNat % 32 = m := by rw [UInt32.toNat_ofNat']; omega
  rw [UInt32.toNat_shiftLeft, h1, Nat.shiftLeft_eq]
  have : ((a.toNat : Int) * 2 ^ (m : Int).toNat) = ((a.toNat * 2 ^ m : Nat) : Int) := by simp
  rw [this, wrap32_nat]
end u32
section u8
variable {a b : UInt8}
theorem OV.addB (hx : ev e x = some (b8 a)) (hy : ev e y = some (b8 b)) : OV P n ds e S ⟨dst, .binOp .add xt x y yt, t, p, af, g⟩ (b8 (a + b)) :=
  (OV.add hx hy).cast (by rw [← Int.natCast_add, wrap8_nat, ← UInt8.toNat_add])
theorem OV.mulB (hx : ev e x = some (b8 a)) (hy : ev e y = some (b8 b)) : OV P n ds e S ⟨dst, .binOp .mul xt x y yt, t, p, af, g⟩ (b8 (a * b)) :=
  (OV.mul hx hy).cast (by rw [← Int.natCast_mul, wrap8_nat, ← UInt8.toNat_mul])
theorem OV.xorB (hx : ev e x = some (b8 a)) (hy : ev e y = some (b8 b)) : OV P n ds e S ⟨dst, .binOp .xor xt x y yt, t, p, af, g⟩ (b8 (a ^^^ b)) :=
  (OV.xor hx hy).cast (by rw [bits8])
theorem OV.andB (hx : ev e x = some (b8 a)) (hy : ev e y = some (b8 b)) : OV P n ds e S ⟨dst, .binOp .and xt x y yt, t, p, af, g⟩ (b8 (a &&& b)) :=
  (OV.and hx hy).cast (by rw [bits8])
theorem OV.orB (hx : ev e x = some (b8 a)) (hy : ev e y = some (b8 b)) : OV P n ds e S ⟨dst, .binOp .or xt x y yt, t, p, af, g⟩ (b8 (a ||| b)) :=
  (OV.or hx hy).cast (by rw [bits8])
theorem OV.shrB {m : Nat} {k' : IntKind} (hx : ev e x = some (b8 a)) (hy : ev e y = some (.int k' (m : Int))) (hm : Nat.blt m 8 = true) :
    OV P n ds e S ⟨dst, .binOp .shr xt x y yt, t, p, af, g⟩ (b8 (a >>> UInt8.ofNat m)) := by
  have hm : m < 8 := by simpa [Nat.blt_eq] using hm
  refine (OV.shr hx hy (by simp [IntKind.bits]; omega)).cast ?_
  congr 1
  have h1 : (UInt8.ofNat m).toNat % 8 = m := by rw [UInt8.toNat_ofNat']; omega
  rw [UInt8.toNat_shiftRight, h1, Nat.shiftRight_eq_div_pow]
  simp
theorem OV.quoB (hx : ev e x = some (b8 a)) (hy : ev e y = some (b8 b)) (hb : (b == 0) = false) : OV P n ds e S ⟨dst, .binOp .quo xt x y yt, t, p, af, g⟩ (b8 (a / b)) := by
  have hb' : b.toNat ≠ 0 := fun h => by
    have : b = 0 := UInt8.toNat_inj.1 (by simpa using h)
    simp [this] at hb
  refine (OV.quo hx hy (by simpa using hb')).cast ?_
  congr 1
  rw [Int.tdiv_eq_ediv_of_nonneg (by omega), ← Int.natCast_ediv, wrap8_nat, UInt8.toNat_div, Nat.mod_eq_of_lt]
  have := a.toNat_lt
  exact Nat.lt_of_le_of_lt (Nat.div_le_self _ _) this
theorem OV.remB (hx : ev e x = some (b8 a)) (hy : ev e y = some (b8 b)) (hb : (b == 0) = false) : OV P n ds e S ⟨dst, .binOp .rem xt x y yt, t, p, af, g⟩ (b8 (a % b)) := by
  have hb' : b.toNat ≠ 0 := fun h => by
    have : b = 0 := UInt8.toNat_inj.1 (by simpa using h)
    simp [this] at hb
  refine (OV.rem hx hy (by simpa using hb')).cast ?_
  congr 1
end u8
section conv
variable {src dst' : TypeId} {d : TypeDesc}
theorem OV.conv8_32 {a : UInt8} (hs : P.underlying src = some d) (hd : P.underlying dst' = some (.int .u32)) (hx : ev e x = some (b8 a)) : OV P n ds e S ⟨dst, .convert src dst' x, t, p, af, g⟩ (w32 a.toUInt32) :=
  (OV.conv hs hd hx).cast (by
    simp only [w32]
    rw [wrap32_nat, UInt8.toNat_toUInt32, Nat.mod_eq_of_lt]
    have := a.toNat_lt
    omega)
theorem OV.conv32_8 {a : UInt32} (hs : P.underlying src = some d) (hd : P.underlying dst' = some (.int .u8)) (hx : ev e x = some (w32 a)) : OV P n ds e S ⟨dst, .convert src dst' x, t, p, af, g⟩ (b8 a.toUInt8) :=
  (OV.conv hs hd hx).cast (by simp only [b8]; rw [wrap8_nat, UInt32.toNat_toUInt8])
theorem OV.conv64_8 {a : UInt64} (hs : P.underlying src = some d) (hd : P.underlying dst' = some (.int .u8)) (hx : ev e x = some (w64 a)) : OV P n ds e S ⟨dst, .convert src dst' x, t, p, af, g⟩ (b8 a.toUInt8) :=
  (OV.conv hs hd hx).cast (by simp only [b8]; rw [wrap8_nat, UInt64.toNat_toUInt8])
theorem OV.convI_8 {m : Nat} {k : IntKind} (hs : P.underlying src = some d) (hd : P.underlying dst' = some (.int .u8)) (hx : ev e x = some (.int k (m : Int))) : OV P n ds e S ⟨dst, .convert src dst' x, t, p, af, g⟩ (b8 (UInt8.ofNat m)) :=
  (OV.conv hs hd hx).cast (by simp only [b8]; rw [wrap8_nat, UInt8.toNat_ofNat'])
theorem OV.convI_64 {m : Nat} {k : IntKind} (hs : P.underlying src = some d) (hd : P.underlying dst' = some (.int .u64)) (hx : ev e x = some (.int k (m : Int))) : OV P n ds e S ⟨dst, .convert src dst' x, t, p, af, g⟩ (w64 (UInt64.ofNat m)) :=
  (OV.conv hs hd hx).cast (by simp only [w64]; rw [wrap64_nat, UInt64.toNat_ofNat'])
end conv

/-! ### In range, other kinds -/
section
variable {a b : Int}
theorem OV.subN {i j : Nat} {k : IntKind} (hx : ev e x = some (.int k (i : Int))) (hy : ev e y = some (.int k (j : Int))) (hk : k.wrap ((i - j : Nat) : Int) = ((i - j : Nat) : Int)) (h : j ≤ i) : OV P n ds e S ⟨dst, .binOp .sub xt x y yt, t, p, af, g⟩ (.int k ((i - j : Nat) : Int)) :=
  (OV.sub hx hy).cast (by rw [← hk, Int.natCast_sub h])
theorem OV.addU8 (hx : ev e x = some (.int .u8 a)) (hy : ev e y = some (.int .u8 b)) (h : 0 ≤ a + b ∧ a + b ≤ 255) : OV P n ds e S ⟨dst, .binOp .add xt x y yt, t, p, af, g⟩ (.int .u8 (a + b)) := (OV.add hx hy).cast (by rw [wrap_u8 h])
theorem OV.subU8 (hx : ev e x = some (.int .u8 a)) (hy : ev e y = some (.int .u8 b)) (h : 0 ≤ a - b ∧ a - b ≤ 255) : OV P n ds e S ⟨dst, .binOp .sub xt x y yt, t, p, af, g⟩ (.int .u8 (a - b)) := (OV.sub hx hy).cast (by rw [wrap_u8 h])
theorem OV.addU64 (hx : ev e x = some (.int .u64 a)) (hy : ev e y = some (.int .u64 b)) (h : 0 ≤ a + b ∧ a + b ≤ 18446744073709551615) : OV P n ds e S ⟨dst, .binOp .add xt x y yt, t, p, af, g⟩ (.int .u64 (a + b)) := (OV.add hx hy).cast (by rw [wrap_u64 h])
theorem OV.mulU64 (hx : ev e x = some (.int .u64 a)) (hy : ev e y = some (.int .u64 b)) (h : 0 ≤ a * b ∧ a * b ≤ 18446744073709551615) : OV P n ds e S ⟨dst, .binOp .mul xt x y yt, t, p, af, g⟩ (.int .u64 (a * b)) := (OV.mul hx hy).cast (by rw [wrap_u64 h])
theorem OV.subU64 (hx : ev e x = some (.int .u64 a)) (hy : ev e y = some (.int .u64 b)) (h : 0 ≤ a - b ∧ a - b ≤ 18446744073709551615) : OV P n ds e S ⟨dst, .binOp .sub xt x y yt, t, p, af, g⟩ (.int .u64 (a - b)) := (OV.sub hx hy).cast (by rw [wrap_u64 h])
theorem OV.convU8 {src dst' : TypeId} {d : TypeDesc} {k : IntKind} (hs : P.underlying src = some d) (hd : P.underlying dst' = some (.int .u8)) (hx : ev e x = some (.int k a)) (h : 0 ≤ a ∧ a ≤ 255) :
    OV P n ds e S ⟨dst, .convert src dst' x, t, p, af, g⟩ (.int .u8 a) := (OV.conv hs hd hx).cast (by rw [wrap_u8 h])
theorem OV.convU64 {src dst' : TypeId} {d : TypeDesc} {k : IntKind} (hs : P.underlying src = some d) (hd : P.underlying dst' = some (.int .u64)) (hx : ev e x = some (.int k a)) (h : 0 ≤ a ∧ a ≤ 18446744073709551615) :
    OV P n ds e S ⟨dst, .convert src dst' x, t, p, af, g⟩ (.int .u64 a) := (OV.conv hs hd hx).cast (by rw [wrap_u64 h])
end
/-- Words in memory. -/
def w32s (l : List UInt32) : List Value := l.map fun c => w32 c
theorem w32s_length (l : List UInt32) : (w32s l).length = l.length := by simp [w32s]
theorem w32s_append (l m : List UInt32) : w32s (l ++ m) = w32s l ++ w32s m := by simp [w32s]
theorem w32s_one (l : List UInt32) : ∀ u ∈ w32s l, u.oneCell' = true := by
  intro u hu
  simp only [w32s, List.mem_map] at hu
  obtain ⟨c, _, rfl⟩ := hu
  rfl
theorem w32s_getD (l : List UInt32) {i : Nat} (h : i < l.length) : (w32s l)[i]? = some (w32 (l.getD i 0)) := by simp [w32s, h]
theorem w32s_arr (l : List UInt32) {i : Nat} (h : i < l.length) : (w32s l).toArray[i]? = some (w32 (l.getD i 0)) := by simp [w32s, h]
theorem w32s_set (l : List UInt32) (i : Nat) (x : UInt32) : (w32s l).set i (w32 x) = w32s (l.set i x) := by simp [w32s, List.map_set]
end Go.Hw
