/- Operations that turn memory or make it; calls; a call's end. -/
import Derived.Test.YtplebagdajdcnaaDoorHwMem
import Derived.Laws.CopyRow
import Derived.Laws.AppendOwn
namespace Go.Hw
set_option linter.unusedVariables false
set_option linter.unusedSimpArgs false
open Go Go.RowKit
variable {w0 ws w : World} {M I : Nat → Prop} {ow : List Item} {i j : Item}
variable {P : Program} {ops : Array Oper} {Q : Post} {n : Nat} {ds : List Deferred} {e : Env} {rest : List Oper} {c : Code}
variable {dst : Option Tmp} {t lt : TypeId} {p : String} {af : Array Edge} {x y z : Operand} {v u : Value} {d : TypeDesc} {S S' : World → Prop} {k : Nat}

theorem Fr.setRow (w : World) (b : Nat) (cs : Array Value) : Fr (fun i => i = b) w (w.setRow b cs) :=
  ⟨rfl, rfl, rfl, by simp, fun i _ hn => setRow_other _ _ _ _ hn⟩

/-- One operation whose run is known. -/
theorem WL.run {op : Op} {r : World → World} {vv : World → Value} (hr : ∀ a w, Fits n ds e a → S w → (execOp a.eval ⟨some k, op, t, p, af, none⟩).run P w = .ok (.value (vv w)) (r w)) (hk : Nat.blt k n = true)
    (h : ∀ w, S w → WL P ops Q n ds ((k, vv w) :: e) (fun w' => w' = r w) rest) : WL P ops Q n ds e S (⟨some k, op, t, p, af, none⟩ :: rest) := by
  intro a w ha hw
  unfold wpList
  rw [if_pos (wanted_none rfl)]
  refine Or.inl ?_
  unfold Oper.wp
  rw [hr a w ha hw]
  exact h w hw _ _ (ha.put hk _) rfl

theorem WL.runS {op : Op} (hr : ∀ a w, Fits n ds e a → S w → ∃ w', (execOp a.eval ⟨none, op, t, p, af, none⟩).run P w = .ok .skip w' ∧ S' w')
    (h : WL P ops Q n ds e S' rest) : WL P ops Q n ds e S (⟨none, op, t, p, af, none⟩ :: rest) := by
  intro a w ha hw
  unfold wpList
  rw [if_pos (wanted_none rfl)]
  refine Or.inl ?_
  unfold Oper.wp
  obtain ⟨w', h1, h2⟩ := hr a w ha hw
  rw [h1]
  exact h _ _ ha h2

/-- An operation whose value is one of many. -/
theorem WL.runX {ι : Type} {vv : ι → Value} {SS : ι → World → Prop} {op : Op} (hr : ∀ a w, Fits n ds e a → S w → ∃ x w', (execOp a.eval ⟨some k, op, t, p, af, none⟩).run P w = .ok (.value (vv x)) w' ∧ SS x w') (hk : Nat.blt k n = true)
    (h : ∀ x, WL P ops Q n ds ((k, vv x) :: e) (SS x) rest) : WL P ops Q n ds e S (⟨some k, op, t, p, af, none⟩ :: rest) := by
  intro a w ha hw
  unfold wpList
  rw [if_pos (wanted_none rfl)]
  refine Or.inl ?_
  unfold Oper.wp
  obtain ⟨x, w', h1, h2⟩ := hr a w ha hw
  rw [h1]
  exact h x _ _ (ha.put hk _) h2

/-! ### New variables -/
def _root_.Go.Program.zr (P : Program) (t : TypeId) : Option (Array Value) := (P.info? t).bind fun i => i.zero.map (·.cells)
theorem run_zero {zc : Array Value} (hz : P.zr lt = some zc) (w : World) : ∃ z, (zeroValue lt).run P w = .ok z w ∧ z.cells = zc := by
  unfold Program.zr at hz
  obtain ⟨i, hi, h⟩ := Option.bind_eq_some_iff.1 hz
  obtain ⟨z, hz', rfl⟩ := Option.map_eq_some_iff.1 h
  exact ⟨z, by simp [zeroValue, typeInfo, hi, hz'], rfl⟩

theorem WL.alloc {cs : List Value} (hz : P.zr lt = some cs.toArray) (hk : Nat.blt k n = true)
    (h : ∀ b, WL P ops Q n ds ((k, .pointer (some ⟨b, 0, none⟩)) :: e) (Sat w0 M I ws (own b (.cells cs.toArray lt (0, 0)) :: ow)) rest) :
    WL P ops Q n ds e (Sat w0 M I ws ow) (⟨some k, .alloc lt, t, p, af, none⟩ :: rest) := by
  refine WL.runX (ι := Nat) (vv := fun b => .pointer (some ⟨b, 0, none⟩)) (SS := fun b => Sat w0 M I ws (own b (.cells cs.toArray lt (0, 0)) :: ow)) ?_ hk h
  intro a w _ hw
  obtain ⟨zv, hzv, hc⟩ := run_zero hz w
  refine ⟨w.heap.size, w.alloc (.cells cs.toArray lt), ?_, ?_⟩
  · simp [execOp, Instr.alloc, hzv, newVar, newRow, newObj, Sem.run, hc]
  · exact hw.fresh (Fr.alloc _ _) (own_alloc _ _) (fun b hb => by simp only [own] at hb; subst hb; simp)

theorem WL.box {cs : List Value} (hx : ev e x = some v) (hc : v.cells = cs.toArray) (hk : Nat.blt k n = true)
    (h : ∀ b, WL P ops Q n ds ((k, .pointer (some ⟨b, 0, none⟩)) :: e) (Sat w0 M I ws (own b (.cells cs.toArray lt (0, 0)) :: ow)) rest) :
    WL P ops Q n ds e (Sat w0 M I ws ow) (⟨some k, .box lt x, t, p, af, none⟩ :: rest) := by
  refine WL.runX (ι := Nat) (vv := fun b => .pointer (some ⟨b, 0, none⟩)) (SS := fun b => Sat w0 M I ws (own b (.cells cs.toArray lt (0, 0)) :: ow)) ?_ hk h
  intro a w ha hw
  refine ⟨w.heap.size, w.alloc (.cells cs.toArray lt), ?_, ?_⟩
  · simp [execOp, Instr.box, newVar, newRow, newObj, Sem.run, ha.eval hx, hc]
  · exact hw.fresh (Fr.alloc _ _) (own_alloc _ _) (fun b hb => by simp only [own] at hb; subst hb; simp)

/-! ### Stores, into the first item -/
theorem Sat.store {b : Nat} {cs cs' : List Value} {T : TypeId} (h : Sat w0 M I ws (own b (.cells cs.toArray T (0, 0)) :: ow) w) {w' : World} (hw : w' = w.setRow b cs'.toArray) :
    Sat w0 M I ws (own b (.cells cs'.toArray T (0, 0)) :: ow) w' := by
  subst hw
  have hb : w.heap[b]? = some (.cells cs.toArray T (0, 0)) := h.it _ (.head _)
  exact h.turn (Fr.setRow _ _ _) (setRow_heap w b _ cs'.toArray T (0, 0) hb) (fun b' hb' => Or.inl hb')

theorem one_cells (h1 : v.oneCell' = true) : v.cells = #[v] := by cases v <;> first | rfl | (simp [Value.oneCell'] at h1)

theorem WL.store1 {b o : Nat} {cs : List Value} {T : TypeId} (hx : ev e x = some (.pointer (some ⟨b, o, none⟩))) (hy : ev e y = some v) (h1 : v.oneCell' = true) (hz : P.sz lt = some 1) (ho : o < cs.length)
    (h : WL P ops Q n ds e (Sat w0 M I ws (own b (.cells (cs.set o v).toArray T (0, 0)) :: ow)) rest) :
    WL P ops Q n ds e (Sat w0 M I ws (own b (.cells cs.toArray T (0, 0)) :: ow)) (⟨none, .store lt x y, t, p, af, none⟩ :: rest) := by
  refine WL.runS (fun a w ha hw => ⟨w.setRow b (cs.set o v).toArray, ?_, hw.store rfl⟩) h
  have hb : w.heap[b]? = some (.cells cs.toArray T (0, 0)) := hw.it _ (.head _)
  have hs := run_storeCells_at P b o T [v] 0 cs.toArray w hb (by simp; omega) (by simpa using h1)
  have hl : cs.take o ++ [v] ++ cs.drop (o + 1) = cs.set o v := by
    rw [List.set_eq_take_append_cons_drop, if_pos ho]; simp
  simp only [Nat.add_zero, List.length_singleton, hl, List.toList_toArray] at hs
  simp only [execOp, Instr.storeAt, Instr.sureAddr, storeVar, ha.eval hx, ha.eval hy, one_cells h1]
  simp [run_sizeOf hz, hs]

theorem WL.storeAll {b : Nat} {cs vs : List Value} {T : TypeId} (hx : ev e x = some (.pointer (some ⟨b, 0, none⟩))) (hy : ev e y = some (.agg vs.toArray)) (h1 : vs.all (·.oneCell') = true) (hz : P.sz lt = some vs.length) (hl : cs.length = vs.length)
    (h : WL P ops Q n ds e (Sat w0 M I ws (own b (.cells vs.toArray T (0, 0)) :: ow)) rest) :
    WL P ops Q n ds e (Sat w0 M I ws (own b (.cells cs.toArray T (0, 0)) :: ow)) (⟨none, .store lt x y, t, p, af, none⟩ :: rest) := by
  refine WL.runS (fun a w ha hw => ⟨w.setRow b vs.toArray, ?_, hw.store rfl⟩) h
  have hb : w.heap[b]? = some (.cells cs.toArray T (0, 0)) := hw.it _ (.head _)
  have hs := run_storeCells_at P b 0 T vs 0 cs.toArray w hb (by simp [hl]) (by simpa using h1)
  have hd : cs.drop vs.length = [] := List.drop_eq_nil_of_le (by omega)
  simp only [Nat.add_zero, Nat.zero_add, List.take_zero, List.nil_append, List.toList_toArray, hd, List.append_nil] at hs
  simp only [execOp, Instr.storeAt, Instr.sureAddr, storeVar, ha.eval hx, ha.eval hy, Value.cells]
  simp [run_sizeOf hz, hs]

theorem WL.storeN {b o : Nat} {cs vs : List Value} {T : TypeId} (hx : ev e x = some (.pointer (some ⟨b, o, none⟩))) (hy : ev e y = some (.agg vs.toArray)) (h1 : vs.all (·.oneCell') = true) (hz : P.sz lt = some vs.length) (hl : o + vs.length ≤ cs.length)
    (h : WL P ops Q n ds e (Sat w0 M I ws (own b (.cells (cs.take o ++ vs ++ cs.drop (o + vs.length)).toArray T (0, 0)) :: ow)) rest) :
    WL P ops Q n ds e (Sat w0 M I ws (own b (.cells cs.toArray T (0, 0)) :: ow)) (⟨none, .store lt x y, t, p, af, none⟩ :: rest) := by
  refine WL.runS (fun a w ha hw => ⟨w.setRow b (cs.take o ++ vs ++ cs.drop (o + vs.length)).toArray, ?_, hw.store rfl⟩) h
  have hb : w.heap[b]? = some (.cells cs.toArray T (0, 0)) := hw.it _ (.head _)
  have hs := run_storeCells_at P b o T vs 0 cs.toArray w hb (by simpa using hl) (by simpa using h1)
  simp only [Nat.add_zero, List.toList_toArray] at hs
  simp only [execOp, Instr.storeAt, Instr.sureAddr, storeVar, ha.eval hx, ha.eval hy, Value.cells]
  simp [run_sizeOf hz, hs]

/-! ### Addresses, parts -/
theorem OV.indexSlice {a : Addr} {m cap s : Nat} {k' : IntKind} {ix : Int} {el : TypeId} {g : Option (Nat × Bool)} (hx : ev e x = some (.slice (some a) m cap)) (hy : ev e y = some (.int k' ix)) (hu : P.underlying lt = some (.slice el)) (hz : P.sz el = some s)
    (hb : 0 ≤ ix ∧ ix < m) : OV P n ds e S ⟨dst, .indexAddr lt x y, t, p, af, g⟩ (.pointer (some (a.add (ix.toNat * s)))) := fun _ w ha _ => by
  simp [execOp, ha.eval hx, ha.eval hy, Instr.indexAt, run_underlying hu, asIntOf, hb, run_sizeOf hz]
theorem OV.indexArr {a : Addr} {m s : Nat} {k' : IntKind} {ix : Int} {el : TypeId} {g : Option (Nat × Bool)} (hx : ev e x = some (.pointer (some a))) (hy : ev e y = some (.int k' ix)) (hu : P.underlying lt = some (.array m el)) (hz : P.sz el = some s)
    (hb : 0 ≤ ix ∧ ix < m) : OV P n ds e S ⟨dst, .indexAddr lt x y, t, p, af, g⟩ (.pointer (some (a.add (ix.toNat * s)))) := fun _ w ha _ => by
  simp [execOp, ha.eval hx, ha.eval hy, Instr.indexAt, run_underlying hu, asIntOf, Instr.sureAddr, hb, run_sizeOf hz]
theorem add_off (b o m : Nat) : (⟨b, o, none⟩ : Addr).add m = ⟨b, o + m, none⟩ := Addr.add_lit b o m
/-- An element of one cell of an array or a slice that lies at a plain address. -/
theorem OV.indexArr1 {b o m : Nat} {k' : IntKind} {ix : Int} {el : TypeId} {g : Option (Nat × Bool)} (hx : ev e x = some (.pointer (some ⟨b, o, none⟩))) (hy : ev e y = some (.int k' ix)) (hu : P.underlying lt = some (.array m el)) (hz : P.sz el = some 1)
    (hb : 0 ≤ ix ∧ ix < m) : OV P n ds e S ⟨dst, .indexAddr lt x y, t, p, af, g⟩ (.pointer (some ⟨b, o + ix.toNat, none⟩)) := (OV.indexArr hx hy hu hz hb).cast (by rw [Nat.mul_one, add_off])
theorem OV.indexSlice1 {b o m cap : Nat} {k' : IntKind} {ix : Int} {el : TypeId} {g : Option (Nat × Bool)} (hx : ev e x = some (.slice (some ⟨b, o, none⟩) m cap)) (hy : ev e y = some (.int k' ix)) (hu : P.underlying lt = some (.slice el)) (hz : P.sz el = some 1)
    (hb : 0 ≤ ix ∧ ix < m) : OV P n ds e S ⟨dst, .indexAddr lt x y, t, p, af, g⟩ (.pointer (some ⟨b, o + ix.toNat, none⟩)) := (OV.indexSlice hx hy hu hz hb).cast (by rw [Nat.mul_one, add_off])
/-- The index is a natural number. -/
theorem OV.indexArrN {b m i : Nat} {k' : IntKind} {el : TypeId} {g : Option (Nat × Bool)} (hx : ev e x = some (.pointer (some ⟨b, 0, none⟩))) (hy : ev e y = some (.int k' (i : Int))) (hu : P.underlying lt = some (.array m el)) (hz : P.sz el = some 1)
    (hb : i < m) : OV P n ds e S ⟨dst, .indexAddr lt x y, t, p, af, g⟩ (.pointer (some ⟨b, i, none⟩)) := (OV.indexArr hx hy hu hz (by omega)).cast (by rw [Nat.mul_one, add_off, Nat.zero_add, Int.toNat_natCast])
theorem OV.indexArrON {b o m i : Nat} {k' : IntKind} {el : TypeId} {g : Option (Nat × Bool)} (hx : ev e x = some (.pointer (some ⟨b, o, none⟩))) (hy : ev e y = some (.int k' (i : Int))) (hu : P.underlying lt = some (.array m el)) (hz : P.sz el = some 1)
    (hb : i < m) : OV P n ds e S ⟨dst, .indexAddr lt x y, t, p, af, g⟩ (.pointer (some ⟨b, o + i, none⟩)) := (OV.indexArr hx hy hu hz (by omega)).cast (by rw [Nat.mul_one, add_off, Int.toNat_natCast])
theorem OV.indexSliceN {b m cap i : Nat} {k' : IntKind} {el : TypeId} {g : Option (Nat × Bool)} (hx : ev e x = some (.slice (some ⟨b, 0, none⟩) m cap)) (hy : ev e y = some (.int k' (i : Int))) (hu : P.underlying lt = some (.slice el)) (hz : P.sz el = some 1)
    (hb : i < m) : OV P n ds e S ⟨dst, .indexAddr lt x y, t, p, af, g⟩ (.pointer (some ⟨b, i, none⟩)) := (OV.indexSlice hx hy hu hz (by omega)).cast (by rw [Nat.mul_one, add_off, Nat.zero_add, Int.toNat_natCast])
theorem OV.indexSliceA {a : Addr} {m cap i : Nat} {k' : IntKind} {el : TypeId} {g : Option (Nat × Bool)} (hx : ev e x = some (.slice (some a) m cap)) (hy : ev e y = some (.int k' (i : Int))) (hu : P.underlying lt = some (.slice el)) (hz : P.sz el = some 1)
    (hb : i < m) : OV P n ds e S ⟨dst, .indexAddr lt x y, t, p, af, g⟩ (.pointer (some (a.add i))) := (OV.indexSlice hx hy hu hz (by omega)).cast (by rw [Nat.mul_one, Int.toNat_natCast])
theorem OV.fieldAddr {b o f off s : Nat} {fs : Array Field} {g : Option (Nat × Bool)} (hx : ev e x = some (.pointer (some ⟨b, o, none⟩))) (hu : P.underlying lt = some (.struct fs)) (hf : (fs[f]?).map (fun q => (q.offset, P.sz q.type)) = some (off, some (s + 1))) :
    OV P n ds e S ⟨dst, .fieldAddr lt x f, t, p, af, g⟩ (.pointer (some ⟨b, o + off, none⟩)) := fun _ w ha _ => by
  obtain ⟨q, hq, h⟩ := Option.map_eq_some_iff.1 hf
  simp only [Prod.mk.injEq] at h
  simp [execOp, ha.eval hx, Instr.fieldAt, run_underlying hu, Instr.sureAddr, hq, fieldPlace, run_sizeOf h.2, h.1, add_off]
/-- A field of a struct that lies at a block's head. -/
theorem OV.fieldAddr0 {b f off s : Nat} {fs : Array Field} {g : Option (Nat × Bool)} (hx : ev e x = some (.pointer (some ⟨b, 0, none⟩))) (hu : P.underlying lt = some (.struct fs)) (hf : (fs[f]?).map (fun q => (q.offset, P.sz q.type)) = some (off, some (s + 1))) :
    OV P n ds e S ⟨dst, .fieldAddr lt x f, t, p, af, g⟩ (.pointer (some ⟨b, off, none⟩)) := (OV.fieldAddr hx hu hf).cast (by rw [Nat.zero_add])
theorem OV.indexArrV {cs : List Value} {m : Nat} {k' : IntKind} {ix : Int} {el : TypeId} {g : Option (Nat × Bool)} (hx : ev e x = some (.agg cs.toArray)) (hy : ev e y = some (.int k' ix)) (hu : P.underlying lt = some (.array m el)) (hue : P.underlying el = some d) (hd : aggD d = false) (hz : P.sz el = some 1)
    (hb : 0 ≤ ix ∧ ix < m) (hv : cs[ix.toNat]? = some v) : OV P n ds e S ⟨dst, .index lt x y, t, p, af, g⟩ v := fun _ w ha _ => by
  simp [execOp, ha.eval hx, ha.eval hy, Instr.index, run_underlying hu, asIntOf, hb, run_sizeOf hz, part, run_isAgg hue, hd, hv]
theorem OV.indexStr {s : ByteArray} {k' : IntKind} {ix : Int} {r : UInt8} {g : Option (Nat × Bool)} (hx : ev e x = some (.string s)) (hy : ev e y = some (.int k' ix)) (hu : P.underlying lt = some .string)
    (hb : 0 ≤ ix ∧ s[ix.toNat]? = some r) : OV P n ds e S ⟨dst, .index lt x y, t, p, af, g⟩ (.int .u8 r.toNat) := fun _ w ha _ => by
  simp [execOp, ha.eval hx, ha.eval hy, Instr.index, run_underlying hu, asIntOf, hb]
theorem OV.extract {vs : List Value} {m : Nat} {g : Option (Nat × Bool)} (hx : ev e x = some (.tuple vs.toArray)) (hv : vs[m]? = some v) : OV P n ds e S ⟨dst, .extract x m, t, p, af, g⟩ v := fun _ w ha _ => by
  simp [execOp, ha.eval hx, Instr.extract, hv]

/-- A zero array. -/
theorem OV.build0 {cs : List Value} {g : Option (Nat × Bool)} {len el m : Nat} (hu : P.underlying lt = some (.array len el)) (hz : P.zr lt = some cs.toArray) (hze : P.sz el = some m) :
    OV P n ds e S ⟨dst, .build lt #[], t, p, af, g⟩ (.agg cs.toArray) := fun _ w ha _ => by
  obtain ⟨zv, hzv, hc⟩ := run_zero hz w
  simp [execOp, Instr.build, hzv, run_underlying hu, Instr.fill, hc, run_sizeOf hze]
theorem block_cell {w : World} {b : Nat} {cs : List Value} {T : TypeId} {f : Nat × Nat} (h : w.heap[b]? = some (.cells cs.toArray T f)) {o : Nat} {v : Value} (hv : cs[o]? = some v) : w.cell? ⟨b, o, none⟩ = some v := by
  simp [World.cell?, h, hv]

section len
variable {g : Option (Nat × Bool)} {ct : Array TypeId}
theorem OV.lenSlice {a : Option Addr} {m cap : Nat} {el : TypeId} (hx : ev e x = some (.slice a m cap)) (hu : P.underlying lt = some (.slice el)) : OV P n ds e S ⟨dst, .call ⟨.builtin .len, #[x], #[lt]⟩, t, p, af, g⟩ (.int .i64 m) := fun _ w ha _ => by
  simp [execOp, resolve, invoke, builtin, ha.eval hx, Builtin.len_, run_underlying hu, goInt]
theorem OV.lenStr {s : ByteArray} (hx : ev e x = some (.string s)) (hu : P.underlying lt = some .string) : OV P n ds e S ⟨dst, .call ⟨.builtin .len, #[x], #[lt]⟩, t, p, af, g⟩ (.int .i64 s.size) := fun _ w ha _ => by
  simp [execOp, resolve, invoke, builtin, ha.eval hx, Builtin.len_, run_underlying hu, goInt]
end len

/-! ### Calls -/
theorem evs_eval {a : Act} (h : Fits n ds e a) : ∀ {xs : List Operand} {vs : List Value}, evs e xs = some vs → xs.map a.eval = vs
  | [], vs, hh => by simp [evs] at hh; simp [hh]
  | x :: xs, vs, hh => by
    simp only [evs, Option.bind_eq_some_iff, Option.some.injEq] at hh
    obtain ⟨v, hv, us, hus, rfl⟩ := hh
    simp [h.eval hv, evs_eval h hus]

def bodied (P : Program) (f : FuncId) : Bool := match P.funcs[f]? with
  | some fn => fn.body.isSome && !(fn.name == "runtime.NumGoroutine")
  | none => false

theorem run_call {f : FuncId} {xs : List Operand} {vs : List Value} {ats : Array TypeId} {a : Act} {g : Option (Nat × Bool)} (hf : bodied P f = true) (ha : Fits n ds e a) (hv : evs e xs = some vs) (w : World) :
    (execOp a.eval ⟨dst, .call ⟨.value (.func f), xs.toArray, ats⟩, t, p, af, g⟩).run P w = .ok (.enter f vs.toArray) w := by
  unfold bodied at hf
  split at hf
  · rename_i fn hfn
    simp only [Bool.and_eq_true, Bool.not_eq_true', beq_eq_false_iff_ne, ne_eq] at hf
    have hb : fn.body.isNone = false := by cases h : fn.body <;> simp_all
    have hargs := evs_eval ha hv
    simp [execOp, resolve, Deferred.ofValue, invoke, Act.eval, callFunc, hfn, hf.2, ← hargs]
    intro h
    simp [h] at hb
  · cases hf

theorem WL.call {ι : Type} {vv : ι → Value} {SS : ι → World → Prop} {f : FuncId} {xs : List Operand} {vs : List Value} {ats : Array TypeId} (hf : bodied P f = true) (hv : evs e xs = some vs) (hk : Nat.blt k n = true)
    (hc : ∀ w, S w → Calls P f vs.toArray w fun en w' => ∃ x, en = .returned (vv x) ∧ SS x w')
    (h : ∀ x, WL P ops Q n ds ((k, vv x) :: e) (SS x) rest) : WL P ops Q n ds e S (⟨some k, .call ⟨.value (.func f), xs.toArray, ats⟩, t, p, af, none⟩ :: rest) := by
  intro a w ha hw
  unfold wpList
  rw [if_pos (wanted_none rfl)]
  refine Or.inl ?_
  unfold Oper.wp
  rw [run_call hf ha hv w]
  refine (hc w hw).mono ?_
  rintro en w' ⟨x, rfl, hx⟩
  exact h x _ _ (ha.put hk _) hx

/-- A callee that turns nothing that was there, and whose answer is known. -/
theorem WL.call0 {f : FuncId} {xs : List Operand} {vs : List Value} {ats : Array TypeId} (hf : bodied P f = true) (hv : evs e xs = some vs) (hk : Nat.blt k n = true)
    (hc : ∀ w, Sat w0 M I ws ow w → Calls P f vs.toArray w fun en w' => en = .returned v ∧ Fr0 w w')
    (h : WL P ops Q n ds ((k, v) :: e) (Sat w0 M I ws ow) rest) : WL P ops Q n ds e (Sat w0 M I ws ow) (⟨some k, .call ⟨.value (.func f), xs.toArray, ats⟩, t, p, af, none⟩ :: rest) :=
  WL.call (ι := Unit) (vv := fun _ => v) (SS := fun _ => Sat w0 M I ws ow) hf hv hk
    (fun w hw => (hc w hw).mono (fun _ _ ⟨h1, h2⟩ => ⟨(), h1, hw.keep h2⟩)) (fun _ => h)

/-! ### In and out -/
def enterTmps (args : List Value) (k : Nat) : Env → List Value → Env
  | e, [] => e
  | e, v :: vs => enterTmps args (k + 1) ((k, v) :: e) vs

theorem enter {f : FuncId} {fn : Func} {c : Code} {args : List Value} {R : Ending → World → Prop} (hf : P.funcs[f]? = some fn) (hb : fn.body = some c) {N : Nat} (hn : fn.ntmps = N) (hN : Nat.ble args.length N = true)
    (h : WC P (bodyPost P fn R) N [] (args.zipIdx.map fun (v, k) => (k, v)) (fun w' => w' = w) c) : Calls P f args.toArray w R := by
  have hN := Nat.le_of_ble_eq_true hN
  refine calls_of_wp hf hb (h _ _ ?_ rfl)
  refine ⟨by simp [hn]; omega, rfl, fun t v ht => ?_⟩
  have key : ∀ (l : List Value) (k : Nat), look ((l.zipIdx k).map fun (v, k) => (k, v)) t = some v → ∃ j, t = k + j ∧ l[j]? = some v := by
    intro l
    induction l with
    | nil => intro k h; simp [look] at h
    | cons u l ih =>
      intro k h
      simp only [List.zipIdx_cons, List.map_cons] at h
      by_cases hk : k = t
      · subst hk
        rw [look_cons_same] at h
        exact ⟨0, rfl, by simpa using h⟩
      · rw [look_cons_ne _ _ hk] at h
        obtain ⟨j, rfl, hj⟩ := ih (k + 1) h
        exact ⟨j + 1, by omega, by simpa using hj⟩
  obtain ⟨j, rfl, hj⟩ := key args 0 ht
  have hj' : j < args.length := (List.getElem?_eq_some_iff.1 hj).1
  simp only [Nat.zero_add]
  rw [Array.getElem?_append_left (by simpa using hj')]
  simpa using hj

/-- The arguments' slots. -/
def argEnv : Nat → List Value → Env
  | _, [] => []
  | k, v :: vs => (k, v) :: argEnv (k + 1) vs
theorem argEnv_eq : ∀ (l : List Value) (k : Nat), ((l.zipIdx k).map fun (v, k) => (k, v)) = argEnv k l
  | [], _ => rfl
  | v :: l, k => by simp [argEnv, argEnv_eq l (k + 1)]
/-- A call begins: all that was there is the snapshot; the blocks of M may be turned. -/
theorem enterS {f : FuncId} {fn : Func} {c : Code} {args : List Value} {R : Ending → World → Prop} (M : Nat → Prop) (hf : P.funcs[f]? = some fn) (hb : fn.body = some c) {N : Nat} (hn : fn.ntmps = N) (hN : Nat.ble args.length N = true) {e : Env} (he : argEnv 0 args = e)
    (h : WC P (bodyPost P fn R) N [] e (Sat w M (fun b => b < w.heap.size) w []) c) : Calls P f args.toArray w R := by
  refine enter hf hb hn hN ?_
  rw [argEnv_eq, he]
  intro a w' ha hw
  subst hw
  exact h a _ ha (Sat.start _ M)

def isEnd : Exit → Bool
  | .normal | .ret => true
  | _ => false
theorem WX.ends {fn : Func} {R : Ending → World → Prop} {ex : Exit} (hx : isEnd ex = true) (h : WX (bodyPost P fn R) n ds e S .ret) : WX (bodyPost P fn R) n ds e S ex := by
  cases ex <;> first | exact h | (simp [isEnd] at hx)

/-- At the end: one result in a slot. -/
theorem WX.ret1 {fn : Func} {ex : Exit} (hx : isEnd ex = true) {R : Ending → World → Prop} {tt : Tmp} (hr : fn.results = #[.tmp tt]) (hv : look e tt = some v) (h : ∀ w, S w → R (.returned v) w) : WX (bodyPost P fn R) n [] e S ex := by
  refine WX.ends hx ?_
  intro a w ha hw
  refine ⟨ha.defers, v, ?_, h w hw⟩
  rw [results_tmp hr]
  simp [Array.getD_eq_getD_getElem?, ha.ok _ _ hv]
theorem WX.ret0 {fn : Func} {ex : Exit} (hx : isEnd ex = true) {R : Ending → World → Prop} (hr : fn.results = #[]) (h : ∀ w, S w → R (.returned (.tuple #[])) w) : WX (bodyPost P fn R) n [] e S ex := by
  refine WX.ends hx ?_
  intro a w ha hw
  exact ⟨ha.defers, _, results_none hr _ _ _, h w hw⟩
theorem WX.ret2 {fn : Func} {ex : Exit} (hx : isEnd ex = true) {R : Ending → World → Prop} {t1 t2 : Tmp} {v1 v2 : Value} (hr : fn.results = #[.tmp t1, .tmp t2]) (h1 : look e t1 = some v1) (h2 : look e t2 = some v2) (h : ∀ w, S w → R (.returned (.tuple #[v1, v2])) w) : WX (bodyPost P fn R) n [] e S ex := by
  refine WX.ends hx ?_
  intro a w ha hw
  refine ⟨ha.defers, _, ?_, h w hw⟩
  rw [results_tmp2 hr]
  simp [Array.getD_eq_getD_getElem?, ha.ok _ _ h1, ha.ok _ _ h2]
/-- One result, in memory (an array or a struct). -/
theorem WX.retC {fn : Func} {ex : Exit} (hx : isEnd ex = true) {R : Ending → World → Prop} {tt : Tmp} {T : TypeId} {b : Nat} {cs : List Value} (hr : fn.results = #[.cell tt T]) (hv : look e tt = some (.pointer (some ⟨b, 0, none⟩))) (hu : P.underlying T = some d) (hd : aggD d = true) (hz : P.sz T = some cs.length)
    (hc : ∀ w, S w → ∀ j v, cs[j]? = some v → w.cell? ⟨b, j, none⟩ = some v) (h : ∀ w, S w → R (.returned (.agg cs.toArray)) w) : WX (bodyPost P fn R) n [] e S ex := by
  refine WX.ends hx ?_
  intro a w ha hw
  refine ⟨ha.defers, _, ?_, h w hw⟩
  have hcc : ∀ j v, cs[j]? = some v → w.cell? ((⟨b, 0, none⟩ : Addr).add j) = some v := fun j v hj => by rw [add_off, Nat.zero_add]; exact hc w hw j v hj
  simp [results, hr, Array.getD_eq_getD_getElem?, ha.ok _ _ hv, asAddr, loadVar, run_isAgg hu, hd, run_sizeOf hz, run_loadCells_list w _ cs hcc]
/-- Two results: the first one in memory. -/
theorem WX.retC2 {fn : Func} {ex : Exit} (hx : isEnd ex = true) {R : Ending → World → Prop} {tt t2 : Tmp} {T : TypeId} {b : Nat} {cs : List Value} (hr : fn.results = #[.cell tt T, .tmp t2]) (hv : look e tt = some (.pointer (some ⟨b, 0, none⟩))) (h2 : look e t2 = some u) (hu : P.underlying T = some d) (hd : aggD d = true) (hz : P.sz T = some cs.length)
    (hc : ∀ w, S w → ∀ j v, cs[j]? = some v → w.cell? ⟨b, j, none⟩ = some v) (h : ∀ w, S w → R (.returned (.tuple #[.agg cs.toArray, u])) w) : WX (bodyPost P fn R) n [] e S ex := by
  refine WX.ends hx ?_
  intro a w ha hw
  refine ⟨ha.defers, _, ?_, h w hw⟩
  have hcc : ∀ j v, cs[j]? = some v → w.cell? ((⟨b, 0, none⟩ : Addr).add j) = some v := fun j v hj => by rw [add_off, Nat.zero_add]; exact hc w hw j v hj
  simp [results, hr, Array.getD_eq_getD_getElem?, ha.ok _ _ hv, ha.ok _ _ h2, asAddr, loadVar, run_isAgg hu, hd, run_sizeOf hz, run_loadCells_list w _ cs hcc]
theorem own_cells (h : Sat w0 M I ws ow w) {b : Nat} {cs : List Value} {T : TypeId} {f : Nat × Nat} (hm : own b (.cells cs.toArray T f) ∈ ow) : ∀ j v, cs[j]? = some v → w.cell? ⟨b, j, none⟩ = some v :=
  fun j v hj => cell_own h hm (by simpa using hj)
end Go.Hw
