/- Equality of arrays of bytes, of texts. -/
import Derived.Test.YtplebagdajdcnaaDoorHwLoop
import Derived.Laws.StructEq
namespace Go.Hw
set_option linter.unusedVariables false
set_option linter.unusedSimpArgs false
open Go Go.RowKit
variable {P : Program} {n : Nat} {ds : List Deferred} {e : Env} {S : World → Prop} {dst : Option Tmp} {t t' : TypeId} {p : String} {af : Array Edge} {g : Option (Nat × Bool)}
variable {x y z : Operand} {v u : Value} {xt yt : TypeId} {w : World}

theorem forIn_early (f : Nat → Option Bool × PUnit → Sem (ForInStep (Option Bool × PUnit))) (ok : Nat → Bool) :
    ∀ (l : List Nat), (∀ i ∈ l, ∀ r, (f i r).run P w = .ok (if ok i then .yield (none, ⟨⟩) else .done (some false, ⟨⟩)) w) → (forIn l ((none, ⟨⟩) : Option Bool × PUnit) f).run P w = .ok (if l.all ok then (none, ⟨⟩) else (some false, ⟨⟩)) w
  | [], _ => by simp
  | i :: l, hf => by
    have ih := forIn_early f ok l (fun j hj => hf j (.tail _ hj))
    simp only [List.forIn_cons, Sem.run_bind, hf i (.head _)]
    cases h : ok i with
    | true => simp [h, Result.andThen, ih]
    | false => simp [h, Result.andThen]

theorem run_equalIn_u8s (d : Nat) {len el : TypeId} (hu : P.underlying t = some (.array len el)) (hue : P.underlying el = some (.int .u8)) (hz : P.sz el = some 1) (xs ys : List UInt8) (hx : xs.length = len) (hy : ys.length = len) :
    (Op.equalIn (d + 2) t (.agg (u8s xs).toArray) (.agg (u8s ys).toArray)).run P w = .ok (decide (xs = ys)) w := by
  have hpart : ∀ (zs : List UInt8) i, i < zs.length → (part el (u8s zs).toArray (i * 1)).run P w = .ok (b8 (zs.getD i 0)) w := by
    intro zs i hi
    simp [part, run_isAgg hue, aggD, u8s, hi]
  have hel : ∀ a b : UInt8, (Op.equalIn (d + 1) el (b8 a) (b8 b)).run P w = .ok (decide (a = b)) w := by
    intro a b
    rw [run_equalIn_int w d el .u8 .u8 _ _ hue]
    congr 1
    rw [Bool.eq_iff_iff]
    simp only [beq_iff_eq, decide_eq_true_eq]
    exact ⟨fun h => UInt8.toNat_inj.1 (by omega), fun h => by rw [h]⟩
  unfold Op.equalIn
  simp only [Sem.run_bind, run_underlying hu, Result.andThen_ok, run_sizeOf hz]
  rw [Std.Legacy.Range.forIn_eq_forIn_range']
  have hsz : (Std.Legacy.Range.size [0:len]) = len := by simp [Std.Legacy.Range.size]
  rw [forIn_early _ (fun i => decide (xs.getD i 0 = ys.getD i 0))]
  · simp only [Result.andThen_ok]
    have hall : ((List.range' [0:len].start [0:len].size [0:len].step).all fun i => decide (xs.getD i 0 = ys.getD i 0)) = decide (xs = ys) := by
      rw [hsz, Bool.eq_iff_iff]
      simp only [List.all_eq_true, List.mem_range'_1, decide_eq_true_eq]
      constructor
      · intro h
        apply List.ext_getElem (by omega)
        intro i h1 h2
        have := h i (by simp; omega)
        simpa [h1, h2] using this
      · rintro rfl i _; rfl
    rw [hall]
    cases decide (xs = ys) <;> rfl
  · intro i hi r
    rw [hsz] at hi
    have hi' : i < len := by simpa using hi
    simp only [Sem.run_bind, hpart xs i (by omega), hpart ys i (by omega), Result.andThen_ok, hel]
    cases decide (xs.getD i 0 = ys.getD i 0) <;> rfl

def Program.noGuard (P : Program) (t : TypeId) : Bool := !(P.eqGuardType P.depth t)
theorem OV.eqlA {len el : TypeId} {xs ys : List UInt8} (hu : P.underlying xt = some (.array len el)) (hue : P.underlying el = some (.int .u8)) (hz : P.sz el = some 1) (hm : P.eqGuardType P.depth xt = false) (hx : ev e x = some (.agg (u8s xs).toArray)) (hy : ev e y = some (.agg (u8s ys).toArray)) (h1 : xs.length = len) (h2 : ys.length = len) :
    OV P n ds e S ⟨dst, .binOp .eql xt x y yt, t, p, af, g⟩ (.bool (decide (xs = ys))) := fun a w ha _ => by
  have h := run_equalIn_u8s (P := P) (w := w) 9998 hu hue hz xs ys h1 h2
  simp only [execOp, Sem.run_bind, ha.eval hx, ha.eval hy, run_eqGuard_agg w .eql xt x y _ _ hm, run_eql_struct, Result.andThen_ok, h]
  rfl
theorem OV.neqA {len el : TypeId} {xs ys : List UInt8} (hu : P.underlying xt = some (.array len el)) (hue : P.underlying el = some (.int .u8)) (hz : P.sz el = some 1) (hm : P.eqGuardType P.depth xt = false) (hx : ev e x = some (.agg (u8s xs).toArray)) (hy : ev e y = some (.agg (u8s ys).toArray)) (h1 : xs.length = len) (h2 : ys.length = len) :
    OV P n ds e S ⟨dst, .binOp .neq xt x y yt, t, p, af, g⟩ (.bool (!decide (xs = ys))) := fun a w ha _ => by
  have h := run_equalIn_u8s (P := P) (w := w) 9998 hu hue hz xs ys h1 h2
  simp only [execOp, Sem.run_bind, ha.eval hx, ha.eval hy, run_eqGuard_agg w .neq xt x y _ _ hm, run_neq_struct, Result.andThen_ok, h]
  rfl

theorem beq_toList (s u : ByteArray) : (s.toList == u.toList) = decide (s = u) := by
  rw [ByteArray.toList_eq, ByteArray.toList_eq]
  obtain ⟨⟨x⟩⟩ := s
  obtain ⟨⟨y⟩⟩ := u
  rw [Bool.eq_iff_iff]
  simp
theorem OV.eqlS {s u : ByteArray} (hx : ev e x = some (.string s)) (hy : ev e y = some (.string u)) : OV P n ds e S ⟨dst, .binOp .eql xt x y yt, t, p, af, g⟩ (.bool (decide (s = u))) := fun _ w ha _ => by
  simp [execOp, ha.eval hx, ha.eval hy, eqGuard_at_string, binOp, Op.stringOp, beq_toList]
theorem OV.neqS {s u : ByteArray} (hx : ev e x = some (.string s)) (hy : ev e y = some (.string u)) : OV P n ds e S ⟨dst, .binOp .neq xt x y yt, t, p, af, g⟩ (.bool (!decide (s = u))) := fun _ w ha _ => by
  simp [execOp, ha.eval hx, ha.eval hy, eqGuard_at_string, binOp, Op.stringOp, beq_toList]
theorem OV.eqlB {a b : Bool} (hu : P.underlying xt = some .bool) (hx : ev e x = some (.bool a)) (hy : ev e y = some (.bool b)) : OV P n ds e S ⟨dst, .binOp .eql xt x y yt, t, p, af, g⟩ (.bool (decide (a = b))) := fun _ w ha _ => by
  simp [execOp, ha.eval hx, ha.eval hy, eqGuard_at_bool, run_eql_bool w xt a b hu]
  cases a <;> cases b <;> rfl
end Go.Hw
