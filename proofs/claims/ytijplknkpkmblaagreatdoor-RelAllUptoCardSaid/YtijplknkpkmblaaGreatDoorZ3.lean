/- Contracts of functions of the program: what each returns and leaves in memory. Printed by gen.py and walk.py. -/
import Derived.Test.YtijplknkpkmblaaGreatDoorZ2
namespace Go.Proofs.YtijplknkpkmblaaGreatDoor
open Go Go.Hw
set_option linter.unusedSimpArgs false
set_option linter.unusedVariables false
theorem row_cap {w : World} {T c m : Nat} {a : Option Addr} {xs : List Value} (h : (row T 1 a m c xs).φ w) : m ≤ c := by
  have h2 : w.ownsRow 0 T 1 (.slice a m c) m xs := h
  rcases h2.2 with ⟨hv, h0⟩ | ⟨g, cc, cur, hv, _, _, hmc, _⟩
  · omega
  · simp only [Value.slice.injEq] at hv; omega
theorem src_take {w0 ws : World} {M I : Nat → Prop} {ow : List Hw.Item} {T m c k : Nat} {a : Option Addr} {xs : List Value} (hx : xs.length = m) (hk : k ≤ m) (hn : a = none → m = 0) (hm : row T 1 a m c xs ∈ ow) : Src (Sat w0 M I ws ow) a k 1 (xs.take k) :=
  ⟨by rw [List.length_take]; omega, fun h => (by have := hn h; omega), fun w hw b hb j u hj => by
    have hj' := (List.getElem?_eq_some_iff.1 hj).1
    rw [List.length_take] at hj'
    rw [List.getElem?_take_of_lt (by omega)] at hj
    exact row_cellsE hw hb hm j u hj⟩
def cut (a : Option Addr) (c k : Nat) : Option Addr := if c = k then a else a.map (·.add (k * 1))
theorem src_drop {w0 ws : World} {M I : Nat → Prop} {ow : List Hw.Item} {T m c k : Nat} {a : Option Addr} {xs : List Value} (hx : xs.length = m) (hk : k ≤ m) (hc : m ≤ c) (hn : a = none → m = 0) (ha : ∀ q, a = some q → 0 < m → ∃ b, q = ⟨b, 0, none⟩) (hm : row T 1 a m c xs ∈ ow) : Src (Sat w0 M I ws ow) (cut a c k) (m - k) 1 (xs.drop k) := by
  refine ⟨by rw [List.length_drop]; omega, fun h => ?_, fun w hw b hb j u hj => ?_⟩
  · unfold cut at h
    split at h
    · have := hn h; omega
    · cases a with
      | none => have := hn rfl; omega
      | some q => cases h
  · have hj' := (List.getElem?_eq_some_iff.1 hj).1
    rw [List.length_drop] at hj'
    rw [List.getElem?_drop] at hj
    unfold cut at hb
    split at hb
    · omega
    · cases a with
      | none => cases hb
      | some q =>
        obtain ⟨b0, rfl⟩ := ha q rfl (by omega)
        simp only [Option.map_some, Option.some.injEq] at hb
        subst hb
        have := row_cellsE hw rfl hm (k + j) u hj
        rw [add_off, Nat.zero_add] at this ⊢
        rw [Nat.mul_one, add_off]
        exact this
theorem OV.sliceFrom {P : Program} {n : Nat} {ds : DS} {e : Env} {S : World → Prop} {dst : Option Tmp} {t lt : TypeId} {p : String} {af : Array Edge} {x : Operand} {g : Option (Nat × Bool)} {a : Option Addr} {m cp k : Nat} {el : TypeId} {lo : Operand} (hx : ev e x = some (.slice a m cp)) (hu : P.underlying lt = some (.slice el)) (hz : P.sz el = some 1) (hlo : ev e lo = some (.int .i64 (k : Int))) (h1 : k ≤ m ∧ m ≤ cp) :
    OV P n ds e S ⟨dst, .slice lt x (some lo) none none, t, p, af, g⟩ (.slice (cut a cp k) (m - k) (cp - k)) :=
  (OV.sliceSl (ml := some k) (mh := none) (l := k) (h := m) hx hu hz (by simp only [bnd, hlo]) rfl rfl rfl ⟨h1.1, h1.2⟩)
theorem zip_take2 {α β : Type} (a : List α) (b : List β) (k : Nat) : (a.zip b).take k = (a.take k).zip (b.take k) := by
  induction a generalizing b k with
  | nil => simp
  | cons x a ih => cases b <;> cases k <;> simp [ih]
theorem zip_drop2 {α β : Type} (a : List α) (b : List β) (k : Nat) : (a.zip b).drop k = (a.drop k).zip (b.drop k) := by
  induction a generalizing b k with
  | nil => simp
  | cons x a ih => cases b <;> cases k <;> simp [ih]
def insAt (q : RefG) (k : Nat) (y : Col) (aa : Option Addr) (ac : Nat) (ia : Option Addr) (ic : Nat) : RefG := { q with aa := aa, ac := ac, ia := ia, ic := ic, cols := q.cols.take k ++ [y] ++ q.cols.drop k, ins := q.ins.take k ++ [4] ++ q.ins.drop k }
theorem insAt_ok {q : RefG} (ok : RefOK q) {k : Nat} {y : Col} {aa ia : Option Addr} {ac ic : Nat} (hp : PlaceOK (refR q) y.l k false) (hl : y.l.length = q.width) (hi : i64s y.l) (hr : y.l.length ≤ 1099511627776) (hc : q.cols.length < 1099511627776) : RefOK (insAt q k y aa ac ia ic) := by
  have hk : k ≤ q.cols.length := by have := hp.le; simpa [refR] using this
  have hR : refR (insAt q k y aa ac ia ic) = (refR q).take k ++ [y.l] ++ (refR q).drop k := by simp [refR, insAt, List.map_take, List.map_drop]
  have hmem : ∀ l ∈ refR (insAt q k y aa ac ia ic), l ∈ refR q ∨ l = y.l := fun l h => by
    rw [hR] at h
    simp only [List.mem_append, List.mem_singleton] at h
    rcases h with (h | h) | h
    · exact .inl (List.mem_of_mem_take h)
    · exact .inr h
    · exact .inl (List.mem_of_mem_drop h)
  refine ⟨by simp [insAt, ok.li], fun l h => ?_, fun l h => ?_, fun l h => ?_, ?_, fun n h => ?_, by simp [insAt]; omega, ok.wl⟩
  · rcases hmem l h with h | h
    · exact ok.wid l h
    · rw [h]; exact hl
  · rcases hmem l h with h | h
    · exact ok.i64 l h
    · rw [h]; exact hi
  · rcases hmem l h with h | h
    · exact ok.rl l h
    · rw [h]; exact hr
  · rw [hR, List.append_assoc, List.pairwise_append]
    have hlt : ∀ a ∈ (refR q).take k, cmpL a y.l < 0 := fun a ha => by
      obtain ⟨j, hj⟩ := List.mem_iff_getElem?.1 ha
      have hj2 := (List.getElem?_eq_some_iff.1 hj).1
      rw [List.length_take] at hj2
      rw [List.getElem?_take_of_lt (by omega)] at hj
      exact hp.lt j a (by omega) hj
    have hgt : ∀ b ∈ (refR q).drop k, cmpL y.l b < 0 := fun b hb => by
      obtain ⟨j, hj⟩ := List.mem_iff_getElem?.1 hb
      rw [List.getElem?_drop] at hj
      have hk2 : k < (refR q).length := by have := (List.getElem?_eq_some_iff.1 hj).1; omega
      have h1 := hp.ge _ (List.getElem?_eq_getElem hk2)
      have h2 : (refR q)[k] ≠ y.l := fun e => by
        have := hp.th.2 (by rw [List.getElem?_eq_getElem hk2, e])
        cases this
      have h3 : cmpL y.l (refR q)[k] < 0 := by
        rcases cmpL_lt_or y.l (refR q)[k] with h | h | h
        · exact h
        · exact absurd h.symm h2
        · omega
      rcases Nat.eq_zero_or_pos j with h0 | h0
      · subst h0
        rw [Nat.add_zero, List.getElem?_eq_getElem hk2] at hj
        rw [← Option.some.inj hj]; exact h3
      · obtain ⟨hjl, rfl⟩ := List.getElem?_eq_some_iff.1 hj
        exact cmpL_trans h3 (List.pairwise_iff_getElem.1 ok.srt k (k + j) hk2 hjl (by omega))
    refine ⟨ok.srt.sublist (List.take_sublist _ _), ?_, fun a ha b hb => ?_⟩
    · rw [List.singleton_append, List.pairwise_cons]
      exact ⟨hgt, ok.srt.sublist (List.drop_sublist _ _)⟩
    · rw [List.singleton_append, List.mem_cons] at hb
      rcases hb with rfl | hb
      · exact hlt a ha
      · exact cmpL_trans (hlt a ha) (hgt b hb)
  · simp only [insAt, List.mem_append, List.mem_singleton] at h
    rcases h with (h | h) | h
    · exact ok.part n (List.mem_of_mem_take h)
    · exact .inr (.inr h)
    · exact ok.part n (List.mem_of_mem_drop h)
theorem insAt_mem {q : RefG} (ok : RefOK q) {k : Nat} {y : Col} {aa ia : Option Addr} {ac ic : Nat} (hk : k ≤ q.cols.length) (p : List Int × Nat) : p ∈ refL (insAt q k y aa ac ia ic) ↔ p ∈ refL q ∨ p = (y.l, 4) := by
  have hR : refR (insAt q k y aa ac ia ic) = (refR q).take k ++ ([y.l] ++ (refR q).drop k) := by simp [refR, insAt, List.map_take, List.map_drop]
  have hl : ((refR q).take k).length = (q.ins.take k).length := by rw [List.length_take, List.length_take, ok.li]; simp [refR]
  have e : refL (insAt q k y aa ac ia ic) = (refL q).take k ++ ([(y.l, 4)] ++ (refL q).drop k) := by
    rw [refL, hR]
    show ((refR q).take k ++ ([y.l] ++ (refR q).drop k)).zip (q.ins.take k ++ [4] ++ q.ins.drop k) = _
    rw [List.append_assoc, List.zip_append hl, refL, zip_take2, zip_drop2]
    rfl
  rw [e, List.mem_append, List.mem_append, List.mem_singleton]
  have e2 : p ∈ refL q ↔ p ∈ (refL q).take k ∨ p ∈ (refL q).drop k := by rw [← List.mem_append, List.take_append_drop]
  rw [e2]
  constructor
  · rintro (h | h | h)
    · exact .inl (.inl h)
    · exact .inr h
    · exact .inl (.inr h)
  · rintro ((h | h) | h)
    · exact .inl h
    · exact .inr (.inr h)
    · exact .inr (.inl h)

set_option maxRecDepth 10000 in
theorem refAdd_calls (q : RefG) (ok : RefOK q) (l : List Int) (a : Option Addr) (m c : Nat) (hi : i64s l) (hm : m ≤ 1099511627776) (hc : q.cols.length < 1099511627776) (w : World) (hr : RI w a m l) (hne : ∀ b, a = some b → 0 < m → ¬ DD (refA q) b.block) (hA : Holds (refA q) w) :
  Calls Tryz.prog 19 #[ptr q.p, .slice a m c] w fun e w' => e = .returned (.tuple #[.bool (decide (l.length = q.width ∧ l ∉ refR q)), .int .i64 (addE q.width l)]) ∧ ∃ q', RefOK q' ∧ q'.p = q.p ∧ q'.width = q.width ∧ q'.cols.length ≤ q.cols.length + 1 ∧ (∀ p, p ∈ refL q' ↔ p ∈ refL q ∨ ((l.length = q.width ∧ l ∉ refR q) ∧ p = (l, 4))) ∧ Turns (refA q) (refA q') w w' := by
  refine enterA hA (args := [ptr q.p, .slice a m c]) Tryz.func19 rfl Tryz.ntmps19 rfl rfl ?_
  refine WC.seq ?_
  refine WC.region ?_
  refine WL.val (OV.assign rfl) rfl ?_
  refine WL.val (OV.assign rfl) rfl ?_
  refine WL.nil ?_
  refine WX.next ?_
  refine WC.seq ?_
  refine WC.seq ?_
  refine WC.region ?_
  refine WL.val (OV.move rfl) rfl ?_
  first
  | (refine WL.val (OV.lenSlice rfl T.u32) rfl ?_)
  | (refine WL.val (OV.lenStr rfl T.u32) rfl ?_)
  refine WL.val (OV.move rfl) rfl ?_
  refine WL.val (OV.nilCheck rfl) rfl ?_
  first
  | (refine WL.val (OV.fieldAddr0 (off := 0) rfl T.u68 rfl) rfl ?_)
  | (refine WL.val (OV.fieldAddr (off := 0) rfl T.u68 rfl) rfl ?_)
  refine WL.val (OV.load1 (v := .int .i64 (q.width : Int)) rfl T.u3 rfl (fun _ hw => (cell_at (hw.it (own q.p (.cells (refC q).toArray 68 (0, 0))) (by simp [refA])) (o := 0) rfl).1)) rfl ?_
  refine WL.val (OV.neq rfl rfl) rfl ?_
  refine WL.nil ?_
  refine WX.next ?_
  refine WC.cond rfl (fun c16 => ?_) (fun c16 => ?_)
  · try simp only [decide_eq_true_eq, decide_eq_false_iff_not, Bool.not_eq_true', Bool.not_eq_false'] at c16
    refine WC.seq ?_
    refine WC.region ?_
    refine WL.val (OV.assign rfl) rfl ?_
    refine WL.val (OV.assign rfl) rfl ?_
    refine WL.nil ?_
    refine WX.next ?_
    refine WC.ret ?_
    refine WX.then_ret ?_
    have hnw : ¬ l.length = q.width := by have := hr.1; intro h; apply c16; omega
    exact WX.ret2 rfl rfl rfl rfl (fun w' hw => ⟨by rw [decide_eq_false (fun h => hnw h.1), addE, if_neg hnw], q, ok, rfl, rfl, by omega, fun p => ⟨fun h => .inl h, fun h => h.elim id (fun h => absurd h.1.1 hnw)⟩, hw.turned⟩)
  · try simp only [decide_eq_true_eq, decide_eq_false_iff_not, Bool.not_eq_true', Bool.not_eq_false'] at c16
    refine WC.skip ?_
    refine WX.next ?_
    refine WC.seq ?_
    refine WC.region ?_
    refine WL.val (OV.move rfl) rfl ?_
    refine WL.val (OV.move rfl) rfl ?_
    have hml := hr.1
    refine WL.call (ι := Nat × Bool) (vv := fun z => .tuple #[.int .i64 ((z.1 : Nat) : Int), .bool z.2]) (SS := fun z w' => PlaceOK (refR q) l z.1 z.2 ∧ Sat w (DD (refA q)) (fun b => b < w.heap.size ∧ ¬ DD (refA q) b) w (refA q) w') (by kernel_rfl) rfl rfl (fun w' hw' => (place_calls q ok l a m c (by omega) hm w' (hr.satA hne hw') hw'.holdsAll).mono (fun en w'' ⟨k, th, h1, h2, h3⟩ => ⟨(k, th), h1, h2, hw'.keep h3⟩)) ?_
    rintro ⟨k, th⟩
    refine WL.pure (fun hplace => ?_)
    refine WL.val (OV.move rfl) rfl ?_
    refine WL.val (OV.extract rfl rfl) rfl ?_
    refine WL.val (OV.extract rfl rfl) rfl ?_
    refine WL.val (OV.assign rfl) rfl ?_
    refine WL.val (OV.assign rfl) rfl ?_
    refine WL.nil ?_
    refine WX.next ?_
    refine WC.seq ?_
    refine WC.seq ?_
    refine WC.region ?_
    refine WL.val (OV.move rfl) rfl ?_
    refine WL.nil ?_
    refine WX.next ?_
    refine WC.cond rfl (fun c23 => ?_) (fun c23 => ?_)
    · try simp only [decide_eq_true_eq, decide_eq_false_iff_not, Bool.not_eq_true', Bool.not_eq_false'] at c23
      refine WC.seq ?_
      refine WC.region ?_
      refine WL.val (OV.assign rfl) rfl ?_
      refine WL.val (OV.assign rfl) rfl ?_
      refine WL.nil ?_
      refine WX.next ?_
      refine WC.ret ?_
      refine WX.then_ret ?_
      have hlw : l.length = q.width := by have := hr.1; omega
      have hin : l ∈ refR q := (hplace.mem ok.srt).1 (by simpa using c23)
      exact WX.ret2 rfl rfl rfl rfl (fun w' hw => ⟨by rw [decide_eq_false (fun h => h.2 hin), addE, if_pos hlw], q, ok, rfl, rfl, by omega, fun p => ⟨fun h => .inl h, fun h => h.elim id (fun h => absurd hin h.1.2)⟩, hw.turned⟩)
    · try simp only [decide_eq_true_eq, decide_eq_false_iff_not, Bool.not_eq_true', Bool.not_eq_false'] at c23
      refine WC.skip ?_
      refine WX.next ?_
      refine WC.seq ?_
      refine WC.region ?_
      refine WL.val (OV.assign rfl) rfl ?_
      refine WL.nil ?_
      refine WX.next ?_
      refine WC.seq ?_
      refine WC.region ?_
      refine WL.val (OV.assign rfl) rfl ?_
      refine WL.nil ?_
      refine WX.next ?_
      refine WC.seq ?_
      have hth : th = false := by cases th; rfl; cases c23
      subst hth
      have hk : k ≤ q.cols.length := by have := hplace.le; simpa [refR] using this
      have hli := ok.li
      have hcapa : q.cols.length ≤ q.ac := row_cap (hA.φ _ (.tail _ (.head _)))
      have hcapi : q.ins.length ≤ q.ic := row_cap (hA.φ _ (.tail _ (.tail _ (.head _))))
      have hna : q.aa = none → q.cols.length = 0 := fun h => by
        rcases Nat.eq_zero_or_pos q.cols.length with h0 | h0
        · exact h0
        · obtain ⟨b, hb⟩ := row_addr (hA.φ _ (.tail _ (.head _))) h0; rw [h] at hb; cases hb
      have hni : q.ia = none → q.ins.length = 0 := fun h => by
        rcases Nat.eq_zero_or_pos q.ins.length with h0 | h0
        · exact h0
        · obtain ⟨b, hb⟩ := row_addr (hA.φ _ (.tail _ (.tail _ (.head _)))) h0; rw [h] at hb; cases hb
      refine WC.weak (S' := Sat w (DD (refA q)) (fun b => b < w.heap.size ∧ ¬ DD (refA q) b) w (row 32 1 none 0 0 [] :: row 3 1 none 0 0 [] :: refA q)) (fun w' hw => (hw.rowNil 3 1).rowNil 32 1) ?_
      refine WC.region ?_
      refine WL.val (OV.move rfl) rfl ?_
      refine WL.val (OV.move rfl) rfl ?_
      refine WL.val (OV.nilCheck rfl) rfl ?_
      first
      | (refine WL.val (OV.fieldAddr0 (off := 1) rfl T.u68 rfl) rfl ?_)
      | (refine WL.val (OV.fieldAddr (off := 1) rfl T.u68 rfl) rfl ?_)
      refine WL.val (OV.load1 (v := .slice q.aa q.cols.length q.ac) rfl T.u48 rfl (fun _ hw => (cell_at (hw.it (own q.p (.cells (refC q).toArray 68 (0, 0))) (by simp [refA])) (o := 1) rfl).1)) rfl ?_
      refine WL.val (OV.move rfl) rfl ?_
      refine WL.val (OV.sliceTo (h := k) rfl T.u48 T.z32 rfl (by omega)) rfl ?_
      refine WL.append (news := (q.cols.map encC).take k) (m2 := k) rfl rfl T.apR (fun _ _ => src_take (T := 32) (c := q.ac) (by simp) hk hna (by simp [rowsA, refA])) (fun u hu => encC_one q.cols u (List.mem_of_mem_take hu)) ⟨by omega, by unfold maxLen; omega⟩ rfl ?_
      intro a31 c31
      rw [Nat.zero_add, List.nil_append]
      refine WL.val (OV.assign rfl) rfl ?_
      refine WL.nil ?_
      refine WX.next ?_
      refine WC.seq ?_
      refine WC.focus perm1 ?_
      refine WC.region ?_
      refine WL.val (OV.move rfl) rfl ?_
      refine WL.val (OV.move rfl) rfl ?_
      refine WL.val (OV.nilCheck rfl) rfl ?_
      first
      | (refine WL.val (OV.fieldAddr0 (off := 2) rfl T.u68 rfl) rfl ?_)
      | (refine WL.val (OV.fieldAddr (off := 2) rfl T.u68 rfl) rfl ?_)
      refine WL.val (OV.load1 (v := .slice q.ia q.ins.length q.ic) rfl T.u32 rfl (fun _ hw => (cell_at (hw.it (own q.p (.cells (refC q).toArray 68 (0, 0))) (by simp [refA])) (o := 2) rfl).1)) rfl ?_
      refine WL.val (OV.move rfl) rfl ?_
      refine WL.val (OV.sliceTo (h := k) rfl T.u32 T.z3 rfl (by omega)) rfl ?_
      refine WL.append (news := (ints (insI q.ins)).take k) (m2 := k) rfl rfl T.apI (fun _ _ => src_take (T := 3) (c := q.ic) (by simp [ints_length, insI_length]) (by omega) hni (by simp [insA, refA])) (fun u hu => ints_one _ u (List.mem_of_mem_take hu)) ⟨by omega, by unfold maxLen; omega⟩ rfl ?_
      intro a39 c39
      rw [Nat.zero_add, List.nil_append]
      refine WL.val (OV.assign rfl) rfl ?_
      refine WL.nil ?_
      refine WX.next ?_
      refine WC.seq ?_
      refine WC.region ?_
      refine WL.val (OV.move rfl) rfl ?_
      refine WL.val (OV.move rfl) rfl ?_
      refine WL.call (ι := Col) (vs := [.slice a m c]) (vv := fun z => encC z) (SS := fun z w' => z.l = l ∧ Sat w (DD (refA q)) (fun b => b < w.heap.size ∧ ¬ DD (refA q) b) w (row 3 1 z.a z.l.length z.c (ints z.l) :: row 3 1 a39 k c39 ((ints (insI q.ins)).take k) :: row 32 1 a31 k c31 ((q.cols.map encC).take k) :: refA q) w') (by kernel_rfl) rfl rfl (fun w' hw' => (copied_calls l a m c hm w' (hr.satA hne hw')).mono (fun en w'' ⟨z, h1, h2, h3, h4⟩ => ⟨z, h1, h2, hw'.fresh h3 h4.1 h4.2⟩)) ?_
      intro y
      refine WL.pure (fun hy => ?_)
      refine WL.buildSlice1 (v := encC y) T.u48 T.z32 T.zr32 rfl rfl rfl ?_
      intro b43
      refine WL.focus perm3 (WL.append (news := [encC y]) rfl rfl T.apR (fun _ _ => own_src (.tail _ (.head _)) rfl) (encC_one [y]) ⟨by omega, by unfold maxLen; omega⟩ rfl ?_)
      intro a44 c44
      refine WL.val (OV.assign rfl) rfl ?_
      refine WL.nil ?_
      refine WX.next ?_
      refine WC.seq ?_
      refine WC.region ?_
      refine WL.val (OV.move rfl) rfl ?_
      refine WL.buildSlice1 (v := .int .i64 4) T.u32 T.z3 T.zr3 rfl rfl rfl ?_
      intro b46
      refine WL.focus perm4 (WL.append (news := [.int .i64 4]) rfl rfl T.apI (fun _ _ => own_src (.tail _ (.head _)) rfl) (ints_one [4]) ⟨by omega, by unfold maxLen; omega⟩ rfl ?_)
      intro a47 c47
      refine WL.val (OV.assign rfl) rfl ?_
      refine WL.nil ?_
      refine WX.next ?_
      refine WC.seq ?_
      refine WC.region ?_
      refine WL.val (OV.move rfl) rfl ?_
      refine WL.val (OV.move rfl) rfl ?_
      refine WL.val (OV.move rfl) rfl ?_
      refine WL.val (OV.nilCheck rfl) rfl ?_
      first
      | (refine WL.val (OV.fieldAddr0 (off := 1) rfl T.u68 rfl) rfl ?_)
      | (refine WL.val (OV.fieldAddr (off := 1) rfl T.u68 rfl) rfl ?_)
      refine WL.val (OV.load1 (v := .slice q.aa q.cols.length q.ac) rfl T.u48 rfl (fun _ hw => (cell_at (hw.it (own q.p (.cells (refC q).toArray 68 (0, 0))) (by simp [refA])) (o := 1) rfl).1)) rfl ?_
      refine WL.val (OV.move rfl) rfl ?_
      refine WL.val (OV.sliceFrom (k := k) rfl T.u48 T.z32 rfl ⟨hk, hcapa⟩) rfl ?_
      refine WL.focus perm2 (WL.append (news := (q.cols.map encC).drop k) (m2 := q.cols.length - k) rfl rfl T.apR (fun _ _ => src_drop (T := 32) (m := q.cols.length) (c := q.ac) (by simp) hk hcapa hna (fun p hp h0 => (by obtain ⟨b, hb⟩ := row_addr (hA.φ _ (.tail _ (.head _))) h0; exact ⟨b, Option.some.inj (hp.symm.trans hb)⟩)) (by simp [rowsA, refA])) (fun u hu => encC_one q.cols u (List.mem_of_mem_drop hu)) ⟨by omega, by unfold maxLen; omega⟩ rfl ?_)
      intro a56 c56
      refine WL.val (OV.nilCheck rfl) rfl ?_
      first
      | (refine WL.val (OV.fieldAddr0 (off := 1) rfl T.u68 rfl) rfl ?_)
      | (refine WL.val (OV.fieldAddr (off := 1) rfl T.u68 rfl) rfl ?_)
      refine WL.focus perm5 (WL.store1 (o := 1) rfl rfl rfl T.z48 (by show 1 < 3; omega) ?_)
      refine WL.nil ?_
      refine WX.next ?_
      refine WC.seq ?_
      refine WC.region ?_
      refine WL.val (OV.move rfl) rfl ?_
      refine WL.val (OV.move rfl) rfl ?_
      refine WL.val (OV.move rfl) rfl ?_
      refine WL.val (OV.nilCheck rfl) rfl ?_
      first
      | (refine WL.val (OV.fieldAddr0 (off := 2) rfl T.u68 rfl) rfl ?_)
      | (refine WL.val (OV.fieldAddr (off := 2) rfl T.u68 rfl) rfl ?_)
      refine WL.val (OV.load1 (v := .slice q.ia q.ins.length q.ic) rfl T.u32 rfl (fun _ hw => (cell_at (hw.it (own q.p (.cells ((refC q).set 1 (.slice a56 (k + 1 + (q.cols.length - k)) c56)).toArray 68 (0, 0))) (by simp [refA])) (o := 2) rfl).1)) rfl ?_
      refine WL.val (OV.move rfl) rfl ?_
      refine WL.val (OV.sliceFrom (k := k) rfl T.u32 T.z3 rfl ⟨by omega, hcapi⟩) rfl ?_
      refine WL.focus perm2 (WL.append (news := (ints (insI q.ins)).drop k) (m2 := q.ins.length - k) rfl rfl T.apI (fun _ _ => src_drop (T := 3) (m := q.ins.length) (c := q.ic) (by simp [ints_length, insI_length]) (by omega) hcapi hni (fun p hp h0 => (by obtain ⟨b, hb⟩ := row_addr (hA.φ _ (.tail _ (.tail _ (.head _)))) h0; exact ⟨b, Option.some.inj (hp.symm.trans hb)⟩)) (by simp [insA, refA])) (fun u hu => ints_one _ u (List.mem_of_mem_drop hu)) ⟨by omega, by unfold maxLen; omega⟩ rfl ?_)
      intro a67 c67
      refine WL.val (OV.nilCheck rfl) rfl ?_
      first
      | (refine WL.val (OV.fieldAddr0 (off := 2) rfl T.u68 rfl) rfl ?_)
      | (refine WL.val (OV.fieldAddr (off := 2) rfl T.u68 rfl) rfl ?_)
      refine WL.focus perm1 (WL.store1 (o := 2) rfl rfl rfl T.z32 (by show 2 < 3; omega) ?_)
      refine WL.nil ?_
      refine WX.next ?_
      refine WC.seq ?_
      refine WC.region ?_
      refine WL.val (OV.assign rfl) rfl ?_
      refine WL.val (OV.assign rfl) rfl ?_
      refine WL.nil ?_
      refine WX.next ?_
      refine WC.ret ?_
      have hlw : l.length = q.width := by have := hr.1; omega
      have hnin : l ∉ refR q := fun h => by have := (hplace.mem ok.srt).2 h; cases this
      have hyw : y.l = l := hy
      have okn := insAt_ok (y := y) (aa := a56) (ac := c56) (ia := a67) (ic := c67) ok (k := k) (by rw [hyw]; exact hplace) (by rw [hyw]; exact hlw) (by rw [hyw]; exact hi) (by rw [hyw]; have := hr.1; omega) hc
      refine WX.ret2 rfl rfl rfl rfl (fun w' hw => ⟨by rw [decide_eq_true (⟨hlw, hnin⟩ : l.length = q.width ∧ l ∉ refR q), addE, if_pos hlw], insAt q k y a56 c56 a67 c67, okn, rfl, rfl, by simp [insAt]; omega, fun p => by rw [insAt_mem ok hk, hyw]; exact ⟨fun h => h.imp id (fun h => ⟨⟨hlw, hnin⟩, h⟩), fun h => h.imp id (·.2)⟩, ?_⟩)
      have h2 := hw.pick [[_], [_], [_], [_], [_], colA y, [_], [_], q.cols.flatMap colA] [0, 2, 1, 5, 8] 9 rfl (by decide) (by decide)
      have hl1 : (q.cols.take k ++ [y] ++ q.cols.drop k).length = k + 1 + (q.cols.length - k) := by simp; omega
      have hl2 : (q.ins.take k ++ [4] ++ q.ins.drop k).length = k + 1 + (q.ins.length - k) := by simp; omega
      have e : refA (insAt q k y a56 c56 a67 c67) = own q.p (.cells (((refC q).set 1 (.slice a56 (k + 1 + (q.cols.length - k)) c56)).set 2 (.slice a67 (k + 1 + (q.ins.length - k)) c67)).toArray 68 (0, 0)) :: row 32 1 a56 (k + 1 + (q.cols.length - k)) c56 ((q.cols.map encC).take k ++ [encC y] ++ (q.cols.map encC).drop k) :: row 3 1 a67 (k + 1 + (q.ins.length - k)) c67 ((ints (insI q.ins)).take k ++ [.int .i64 4] ++ (ints (insI q.ins)).drop k) :: (q.cols.take k ++ y :: q.cols.drop k).flatMap colA := by
        simp only [refA, refC, insAt, rowsA, insA, hl1, hl2]
        simp [ints, insI, List.map_take, List.map_drop]
      rw [e]
      have h3 : Sat w (DD (refA q)) (fun b => b < w.heap.size ∧ ¬ DD (refA q) b) w (own q.p (.cells (((refC q).set 1 (.slice a56 (k + 1 + (q.cols.length - k)) c56)).set 2 (.slice a67 (k + 1 + (q.ins.length - k)) c67)).toArray 68 (0, 0)) :: row 32 1 a56 (k + 1 + (q.cols.length - k)) c56 ((q.cols.map encC).take k ++ [encC y] ++ (q.cols.map encC).drop k) :: row 3 1 a67 (k + 1 + (q.ins.length - k)) c67 ((ints (insI q.ins)).take k ++ [.int .i64 4] ++ (ints (insI q.ins)).drop k) :: (colA y ++ (q.cols.take k ++ q.cols.drop k).flatMap colA)) w' := by
        rw [List.take_append_drop]; exact h2
      exact (h3.perm (.cons _ (.cons _ (.cons _ (flat_ahead colA (q.cols.take k) (q.cols.drop k) y).symm)))).turned

end Go.Proofs.YtijplknkpkmblaaGreatDoor
