/- Parts of arrays, slices and texts; copies; literals of structs. -/
import Derived.Test.YtplebagdajdcnaaDoorHwShut
namespace Go.Hw
set_option linter.unusedVariables false
set_option linter.unusedSimpArgs false
open Go Go.RowKit Go.Lib
variable {w0 ws w : World} {M I : Nat → Prop} {ow : List Item} {i j : Item}
variable {P : Program} {ops : Array Oper} {Q : Post} {n : Nat} {ds : List Deferred} {e : Env} {rest : List Oper} {c : Code}
variable {dst : Option Tmp} {t lt : TypeId} {p : String} {af : Array Edge} {x y z : Operand} {v u : Value} {d : TypeDesc} {S S' : World → Prop} {k : Nat} {g : Option (Nat × Bool)}

/-! ### Natural numbers -/
section
variable {i j : Nat} {xt yt : TypeId}
theorem OV.addN (hx : ev e x = some (.int .i64 (i : Int))) (hy : ev e y = some (.int .i64 (j : Int))) (h : i + j ≤ 9223372036854775807) : OV P n ds e S ⟨dst, .binOp .add xt x y yt, t, p, af, g⟩ (.int .i64 ((i + j : Nat) : Int)) :=
  (OV.addI hx hy (by omega)).cast (by congr 1)
theorem OV.mulN (hx : ev e x = some (.int .i64 (i : Int))) (hy : ev e y = some (.int .i64 (j : Int))) (h : i * j ≤ 9223372036854775807) : OV P n ds e S ⟨dst, .binOp .mul xt x y yt, t, p, af, g⟩ (.int .i64 ((i * j : Nat) : Int)) :=
  (OV.mulI hx hy (by rw [← Int.natCast_mul]; omega)).cast (by congr 1)
theorem OV.quoN (hx : ev e x = some (.int .i64 (i : Int))) (hy : ev e y = some (.int .i64 (j : Int))) (h : i ≤ 9223372036854775807 ∧ 1 ≤ j) : OV P n ds e S ⟨dst, .binOp .quo xt x y yt, t, p, af, g⟩ (.int .i64 ((i / j : Nat) : Int)) :=
  (OV.quoI hx hy (by omega)).cast (by congr 1)
theorem OV.remNat {k : IntKind} (hx : ev e x = some (.int k (i : Int))) (hy : ev e y = some (.int k (j : Int))) (h : 1 ≤ j) : OV P n ds e S ⟨dst, .binOp .rem xt x y yt, t, p, af, g⟩ (.int k ((i % j : Nat) : Int)) :=
  (OV.remN hx hy (by omega)).cast (by congr 1)
end

/-- A bound of a part: none, or a number. -/
def bnd (e : Env) : Option Operand → Option (Option Nat)
  | none => some none
  | some x => match ev e x with
    | some (.int .i64 (.ofNat m)) => some (some m)
    | _ => none
theorem bnd_eval {a : Act} (ha : Fits n ds e a) {o : Option Operand} {m : Option Nat} (h : bnd e o = some m) : ∃ vv, o.map a.eval = vv ∧ ((vv = none ∧ m = none) ∨ ∃ q : Nat, vv = some (.int .i64 (q : Int)) ∧ m = some q) := by
  cases o with
  | none => simp only [bnd, Option.some.injEq] at h; exact ⟨none, rfl, .inl ⟨rfl, h.symm⟩⟩
  | some x =>
    simp only [bnd] at h
    split at h
    · rename_i m' hm
      simp only [Option.some.injEq] at h
      refine ⟨some (.int .i64 (.ofNat m')), by simp [ha.eval hm], .inr ⟨m', rfl, h.symm⟩⟩
    · cases h

theorem run_bounds (isSlice : Bool) {len cap : Nat} {lo hi : Option Value} {l h : Nat} {ml mh : Option Nat}
    (hlo : (lo = none ∧ ml = none) ∨ ∃ q : Nat, lo = some (.int .i64 (q : Int)) ∧ ml = some q) (hhi : (hi = none ∧ mh = none) ∨ ∃ q : Nat, hi = some (.int .i64 (q : Int)) ∧ mh = some q)
    (hl : ml.getD 0 = l) (hh : mh.getD len = h) (h1 : l ≤ h) (h2 : h ≤ cap) (w : World) :
    (Instr.sliceBounds isSlice len cap lo hi none).run P w = .ok (l, h, cap) w := by
  have hb : ∀ (q y : Nat) (code : BoundsCode), q ≤ y → (Instr.sliceBound (.int .i64 (q : Int)) y code).run P w = .ok q w := by
    intro q y code hq
    simp [Instr.sliceBound, asIntOf, hq]
  rcases hlo with ⟨rfl, rfl⟩ | ⟨ql, rfl, rfl⟩ <;> rcases hhi with ⟨rfl, rfl⟩ | ⟨qh, rfl, rfl⟩ <;> simp only [Option.getD_none, Option.getD_some] at hl hh <;> subst hl <;> subst hh <;>
    simp [Instr.sliceBounds, hb, h1, h2]

/-- A part of an array in memory. -/
theorem OV.sliceArr {a : Addr} {m s l h : Nat} {el : TypeId} {lo hi : Option Operand} {ml mh : Option Nat} (hx : ev e x = some (.pointer (some a))) (hu : P.underlying lt = some (.array m el)) (hz : P.sz el = some s)
    (hlo : bnd e lo = some ml) (hhi : bnd e hi = some mh) (hl : ml.getD 0 = l) (hh : mh.getD m = h) (h1 : l ≤ h ∧ h ≤ m) :
    OV P n ds e S ⟨dst, .slice lt x lo hi none, t, p, af, g⟩ (.slice (some (if m = l then a else a.add (l * s))) (h - l) (m - l)) := fun ac w ha _ => by
  obtain ⟨v1, e1, b1⟩ := bnd_eval ha hlo
  obtain ⟨v2, e2, b2⟩ := bnd_eval ha hhi
  have := run_bounds (P := P) false b1 b2 hl hh h1.1 h1.2 w
  simp [execOp, ha.eval hx, e1, e2, Instr.sliceAt, run_underlying hu, Instr.sureAddr, this, run_sizeOf hz]
theorem OV.sliceSl {a : Option Addr} {m cp s l h : Nat} {el : TypeId} {lo hi : Option Operand} {ml mh : Option Nat} (hx : ev e x = some (.slice a m cp)) (hu : P.underlying lt = some (.slice el)) (hz : P.sz el = some s)
    (hlo : bnd e lo = some ml) (hhi : bnd e hi = some mh) (hl : ml.getD 0 = l) (hh : mh.getD m = h) (h1 : l ≤ h ∧ h ≤ cp) :
    OV P n ds e S ⟨dst, .slice lt x lo hi none, t, p, af, g⟩ (.slice (if cp = l then a else a.map (·.add (l * s))) (h - l) (cp - l)) := fun ac w ha _ => by
  obtain ⟨v1, e1, b1⟩ := bnd_eval ha hlo
  obtain ⟨v2, e2, b2⟩ := bnd_eval ha hhi
  have := run_bounds (P := P) true b1 b2 hl hh h1.1 h1.2 w
  simp [execOp, ha.eval hx, e1, e2, Instr.sliceAt, Instr.slice, run_underlying hu, this, run_sizeOf hz]
theorem addr_add0 (a : Addr) : a.add 0 = a := by simp [Addr.add]
/-- The first elements of a slice. -/
theorem OV.sliceTo {a : Option Addr} {m cp s h : Nat} {el : TypeId} {hi : Operand} (hx : ev e x = some (.slice a m cp)) (hu : P.underlying lt = some (.slice el)) (hz : P.sz el = some s) (hhi : ev e hi = some (.int .i64 (h : Int))) (h1 : h ≤ cp) :
    OV P n ds e S ⟨dst, .slice lt x none (some hi) none, t, p, af, g⟩ (.slice a h cp) :=
  (OV.sliceSl (ml := none) (mh := some h) (l := 0) (h := h) hx hu hz rfl (by simp only [bnd, hhi]) rfl rfl (by omega)).cast (by
    have : (if cp = 0 then a else a.map (·.add (0 * s))) = a := by
      split
      · rfl
      · rw [Nat.zero_mul]
        cases a with
        | none => rfl
        | some q => simp [addr_add0]
    rw [this]
    rfl)
theorem OV.sliceStr {s : ByteArray} {l h : Nat} {lo hi : Option Operand} {ml mh : Option Nat} (hx : ev e x = some (.string s)) (hu : P.underlying lt = some .string)
    (hlo : bnd e lo = some ml) (hhi : bnd e hi = some mh) (hl : ml.getD 0 = l) (hh : mh.getD s.size = h) (h1 : l ≤ h ∧ h ≤ s.size) :
    OV P n ds e S ⟨dst, .slice lt x lo hi none, t, p, af, g⟩ (.string (s.extract l h)) := fun ac w ha _ => by
  obtain ⟨v1, e1, b1⟩ := bnd_eval ha hlo
  obtain ⟨v2, e2, b2⟩ := bnd_eval ha hhi
  have := run_bounds (P := P) false b1 b2 hl hh h1.1 h1.2 w
  simp [execOp, ha.eval hx, e1, e2, Instr.sliceAt, Instr.slice, run_underlying hu, this]
/-- The whole of an array at a plain address; from its element number l on. -/
theorem OV.sliceArrAll {a : Addr} {m s : Nat} {el : TypeId} (hx : ev e x = some (.pointer (some a))) (hu : P.underlying lt = some (.array m el)) (hz : P.sz el = some s) :
    OV P n ds e S ⟨dst, .slice lt x none none none, t, p, af, g⟩ (.slice (some a) m m) :=
  (OV.sliceArr (l := 0) (h := m) hx hu hz rfl rfl rfl rfl (by omega)).cast (by
    have : (if m = 0 then a else a.add (0 * s)) = a := by
      split
      · rfl
      · simp [Addr.add]
    rw [this]
    rfl)
theorem OV.sliceArrFrom {b o m l : Nat} {el : TypeId} {lo : Operand} (hx : ev e x = some (.pointer (some ⟨b, o, none⟩))) (hu : P.underlying lt = some (.array m el)) (hz : P.sz el = some 1) (hlo : ev e lo = some (.int .i64 (l : Int))) (h1 : l < m) :
    OV P n ds e S ⟨dst, .slice lt x (some lo) none none, t, p, af, g⟩ (.slice (some ⟨b, o + l, none⟩) (m - l) (m - l)) :=
  (OV.sliceArr (ml := some l) (l := l) (h := m) hx hu hz (by simp only [bnd, hlo]) rfl rfl rfl (by omega)).cast (by
    rw [if_neg (by omega), Nat.mul_one, add_off])

/-- A copy into the first item. -/
theorem WL.copy {b o dl dc m cp : Nat} {a : Option Addr} {cs news : List Value} {T el T2 : TypeId} {q1 q2 : Operand} (hx : ev e q1 = some (.slice (some ⟨b, o, none⟩) dl dc)) (hy : ev e q2 = some (.slice a m cp)) (hu : P.underlying lt = some (.slice el)) (hz : P.sz el = some 1)
    (hs : ∀ w, Sat w0 M I ws (own b (.cells cs.toArray T (0, 0)) :: ow) w → Src (Sat w0 M I ws (own b (.cells cs.toArray T (0, 0)) :: ow)) a m 1 news) (h1 : ∀ u ∈ news, u.oneCell' = true) (hf : o + min m dl ≤ cs.length) (hk : Nat.blt k n = true)
    (h : WL P ops Q n ds ((k, .int .i64 ((min m dl : Nat) : Int)) :: e) (Sat w0 M I ws (own b (.cells (cs.take o ++ news.take (min m dl) ++ cs.drop (o + min m dl)).toArray T (0, 0)) :: ow)) rest) :
    WL P ops Q n ds e (Sat w0 M I ws (own b (.cells cs.toArray T (0, 0)) :: ow)) (⟨some k, .call ⟨.builtin .copy, #[q1, q2], #[lt, T2]⟩, t, p, af, none⟩ :: rest) := by
  refine WL.runX (ι := Unit) (vv := fun _ => .int .i64 ((min m dl : Nat) : Int)) (SS := fun _ => Sat w0 M I ws (own b (.cells (cs.take o ++ news.take (min m dl) ++ cs.drop (o + min m dl)).toArray T (0, 0)) :: ow)) ?_ hk (fun _ => h)
  intro ac w ha hw
  have hS := hs w hw
  have hlen : news.length = m := by have := hS.1; omega
  have hb : w.heap[b]? = some (.cells cs.toArray T (0, 0)) := hw.it _ (.head _)
  have hz' : (P.info? el).map (·.size) = some 1 := hz
  cases a with
  | none =>
    have hm := hS.2.1 rfl
    subst hm
    have hnn : news = [] := List.eq_nil_of_length_eq_zero hlen
    subst hnn
    refine ⟨(), w, ?_, by simpa using hw⟩
    cases hq : P.info? el with
    | none => simp [hq] at hz'
    | some i =>
      simp [execOp, resolve, invoke, builtin, ha.eval hx, ha.eval hy, Builtin.copy_, run_underlying hu, Builtin.lenOf, Builtin.firstCells, sizeOf, typeInfo, hq, storeCells, goInt]
  | some a =>
    refine ⟨(), w.setRow b (cs.take o ++ news.take (min m dl) ++ cs.drop (o + min m dl)).toArray, ?_, hw.store rfl⟩
    have hl2 : (news.take (min m dl)).length = min m dl := by rw [List.length_take]; omega
    have hr := run_copy_row (P := P) w lt T2 t el b o dl dc a m cp cs.toArray T (news.take (min m dl)) hu hz' hb hl2 (fun j v hj => by
      have hj' : j < min m dl := by have := (List.getElem?_eq_some_iff.1 hj).1; omega
      rw [List.getElem?_take_of_lt hj'] at hj
      exact hS.2.2 w hw a rfl j v hj) (by rw [hl2]; simpa using hf) (fun v hv => h1 v (List.mem_of_mem_take hv))
    rw [hl2] at hr
    simp only [List.toList_toArray] at hr
    simp [execOp, resolve, invoke, builtin, ha.eval hx, ha.eval hy, hr, goInt]

/-- A slice's literal that grows. -/
theorem Sat.toRow {b : Nat} {xs : List Value} {T : TypeId} {m : Nat} (hm : xs.length = m) (hl : m ≤ maxLen) (h : Sat w0 M I ws (own b (.cells xs.toArray T (0, 0)) :: ow) w) : Sat w0 M I ws (row T 1 (some ⟨b, 0, none⟩) m m xs :: ow) w := by
  have hb : w.heap[b]? = some (.cells xs.toArray T (0, 0)) := h.it _ (.head _)
  refine h.turn (Fr.refl _ _) ⟨by simp [hm], .inr ⟨b, m, xs.toArray, rfl, Nat.zero_le _, hb, Nat.le_refl _, hl, by simp [hm], by simp [← hm]⟩⟩ (fun q hq => .inl ?_)
  obtain ⟨a, ha, rfl⟩ := hq
  simp only [Option.some.injEq] at ha
  subst ha
  rfl
theorem WL.toRow {b : Nat} {xs : List Value} {T : TypeId} {m : Nat} (hm : xs.length = m) (hl : m ≤ maxLen) {l : List Oper} (h : WL P ops Q n ds e (Sat w0 M I ws (row T 1 (some ⟨b, 0, none⟩) m m xs :: ow)) l) :
    WL P ops Q n ds e (Sat w0 M I ws (own b (.cells xs.toArray T (0, 0)) :: ow)) l := h.weak (fun _ hw => hw.toRow hm hl)
theorem WC.toRow {b : Nat} {xs : List Value} {T : TypeId} {m : Nat} (hm : xs.length = m) (hl : m ≤ maxLen) (h : WC P Q n ds e (Sat w0 M I ws (row T 1 (some ⟨b, 0, none⟩) m m xs :: ow)) c) :
    WC P Q n ds e (Sat w0 M I ws (own b (.cells xs.toArray T (0, 0)) :: ow)) c := h.weak (fun _ hw => hw.toRow hm hl)

/-! ### What a callee makes anew -/
/-- An item in blocks that were not there. -/
def New (w w' : World) (i : Item) : Prop := i.φ w' ∧ ∀ b, i.D b → w.heap.size ≤ b ∧ b < w'.heap.size
theorem Sat.new {w0 w : World} (h : Sat w0 M I ws ow w) {i : Item} (hi : i ∈ ow) (hM : ∀ b, i.D b → ¬ M b) : New w0 w i :=
  ⟨h.it i hi, fun b hb => ⟨(h.lt i hi b hb).2.2.elim (fun hm => absurd hm (hM b hb)) id, (h.lt i hi b hb).1⟩⟩
theorem Sat.new0 {w0 w : World} (h : Sat w0 (fun _ => False) I ws ow w) {i : Item} (hi : i ∈ ow) : New w0 w i := h.new hi (fun _ _ hf => hf)
theorem WL.callF {ι : Type} {vv : ι → Value} {pp : ι → Prop} {it : ι → Item} {f : FuncId} {xs : List Operand} {vs : List Value} {ats : Array TypeId} (hf : bodied P f = true) (hv : evs e xs = some vs) (hk : Nat.blt k n = true)
    (hc : ∀ w, Sat w0 M I ws ow w → Calls P f vs.toArray w fun en w' => ∃ x, en = .returned (vv x) ∧ pp x ∧ Fr0 w w' ∧ New w w' (it x))
    (h : ∀ x, pp x → WL P ops Q n ds ((k, vv x) :: e) (Sat w0 M I ws (it x :: ow)) rest) : WL P ops Q n ds e (Sat w0 M I ws ow) (⟨some k, .call ⟨.value (.func f), xs.toArray, ats⟩, t, p, af, none⟩ :: rest) :=
  WL.call (ι := ι) (vv := vv) (SS := fun x w => pp x ∧ Sat w0 M I ws (it x :: ow) w) hf hv hk
    (fun w hw => (hc w hw).mono (fun _ _ ⟨x, h1, h2, h3, h4⟩ => ⟨x, h1, h2, hw.fresh h3 h4.1 h4.2⟩)) (fun x => WL.pure (h x))
theorem Sat.apart (h : Sat w0 M I ws (i :: ow) w) {j : Item} (hj : j ∈ ow) : Disj i j := (List.pairwise_cons.1 h.disj).1 j hj

/-! ### Structs -/
theorem run_places {fs : List Field} {pl : List (Nat × Nat)} (h : fs.map (fun f => (f.offset, P.sz f.type)) = pl.map (fun q => (q.1, some q.2))) (w : World) :
    (fs.mapM fun f => do pure (f.offset, ← sizeOf f.type) : Sem (List (Nat × Nat))).run P w = .ok pl w := by
  induction fs generalizing pl with
  | nil =>
    cases pl with
    | nil => rfl
    | cons q pl => simp at h
  | cons f fs ih =>
    cases pl with
    | nil => simp at h
    | cons q pl =>
      simp only [List.map_cons, List.cons.injEq, Prod.mk.injEq] at h
      obtain ⟨⟨h1, h2⟩, h3⟩ := h
      have := ih h3
      simp only [List.mapM_cons, Sem.run_bind, run_sizeOf h2, Result.andThen_ok, Sem.run_pure, this]
      rw [h1]
theorem OV.buildStruct {fs : Array Field} {pl : List (Nat × Nat)} {zc cs : List Value} {xs : List (Nat × Operand)} {vs : List Value} (hu : P.underlying lt = some (.struct fs)) (hzr : P.zr lt = some zc.toArray) (hpl : fs.toList.map (fun f => (f.offset, P.sz f.type)) = pl.map (fun q => (q.1, some q.2)))
    (hv : evs e (xs.map (·.2)) = some vs) (hf : Instr.fill (fun i => pl[i]?) zc.toArray ((xs.map (·.1)).zip vs) = some cs.toArray) :
    OV P n ds e S ⟨dst, .build lt xs.toArray, t, p, af, g⟩ (.agg cs.toArray) := fun a w ha _ => by
  obtain ⟨zv, hzv, hc⟩ := run_zero hzr w
  have hxs := evs_eval ha hv
  have hmap : xs.map (fun q => (q.1, a.eval q.2)) = (xs.map (·.1)).zip vs := by
    rw [← hxs, List.map_map, List.zip_map']
    rfl
  have hp := run_places (P := P) hpl w
  have hpa : (fs.mapM fun f => do pure (f.offset, ← sizeOf f.type) : Sem (Array (Nat × Nat))).run P w = .ok pl.toArray w := by
    have : (fs.mapM fun f => do pure (f.offset, ← sizeOf f.type) : Sem (Array (Nat × Nat))) = List.toArray <$> (fs.toList.mapM fun f => do pure (f.offset, ← sizeOf f.type)) := Array.mapM_eq_mapM_toList
    rw [this]
    simp only [map_eq_pure_bind, Sem.run_bind, hp, Result.andThen_ok, Sem.run_pure]
  simp only [execOp, Instr.build]
  simp only [Sem.run_bind, hzv, Result.andThen_ok, run_underlying hu, hpa, hc]
  have hm2 : (List.map (fun x => match x with | (i, x) => (i, a.eval x)) xs) = (xs.map (·.1)).zip vs := by
    rw [← hmap]
  have hg : (fun i : Nat => pl.toArray[i]?) = fun i : Nat => pl[i]? := by funext i; simp
  have hf2 : Instr.fill (fun i : Nat => pl.toArray[i]?) zc.toArray (List.map (fun x => match x with | (i, x) => (i, a.eval x)) xs) = some cs.toArray := by rw [hm2, hg]; exact hf
  simp only [List.map_toArray]
  rw [hf2]
  rfl
theorem fill_cons {pl : Nat → Option (Nat × Nat)} {cs us : List Value} {i off : Nat} {v : Value} {r : List (Nat × Value)} {q : Option (Array Value)} (hv : v.cells = us.toArray) (hp : pl i = some (off, us.length)) (hl : off + us.length ≤ cs.length)
    (h : Instr.fill pl (cs.take off ++ us ++ cs.drop (off + us.length)).toArray r = q) : Instr.fill pl cs.toArray ((i, v) :: r) = q := by
  unfold Instr.fill
  have hset : ∀ (us done : List Value) (k : Nat) (cs : List Value), off + k + us.length ≤ cs.length → ((us.zipIdx k).foldl (fun (cs : Array Value) (x : Value × Nat) => cs.setIfInBounds (off + x.2) x.1) cs.toArray) = (cs.take (off + k) ++ us ++ cs.drop (off + k + us.length)).toArray := by
    intro us
    induction us with
    | nil => intro _ k cs _; simp
    | cons u us ih =>
      intro done k cs hl
      simp only [List.length_cons] at hl
      simp only [List.zipIdx_cons, List.foldl_cons, List.setIfInBounds_toArray]
      rw [ih done (k + 1) (cs.set (off + k) u) (by simp; omega)]
      congr 1
      have e1 : (cs.set (off + k) u).take (off + (k + 1)) = cs.take (off + k) ++ [u] := by
        rw [← Nat.add_assoc, List.take_add_one, List.take_set, List.getElem?_set_self (by omega)]
        rw [List.set_eq_of_length_le (by simp; omega)]
        rfl
      have e2 : (cs.set (off + k) u).drop (off + (k + 1) + us.length) = cs.drop (off + k + (us.length + 1)) := by
        rw [List.drop_set_of_lt (by omega)]
        congr 1; omega
      rw [e1, e2]
      simp
  have h2 : (v.cells.zipIdx.foldl (fun cs (x : Value × Nat) => cs.setIfInBounds (off + x.2) x.1) cs.toArray) = (cs.take off ++ us ++ cs.drop (off + us.length)).toArray := by
    have h3 := hset us [] 0 cs (by omega)
    simp only [Nat.add_zero] at h3
    rw [hv, ← h3]
    simp
  rw [hp]
  simp only
  rw [if_neg (by rw [hv]; simp; omega), h2]
  exact h
end Go.Hw
