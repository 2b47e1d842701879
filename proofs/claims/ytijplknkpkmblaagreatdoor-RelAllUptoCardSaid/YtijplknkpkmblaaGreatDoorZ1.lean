/- Contracts of functions of the program: what each returns and leaves in memory. Printed by gen.py and walk.py. -/
import Derived.Test.YtijplknkpkmblaaGreatDoorZ0
namespace Go.Proofs.YtijplknkpkmblaaGreatDoor
open Go Go.Hw
set_option linter.unusedSimpArgs false
set_option linter.unusedVariables false
theorem _root_.Go.Hw.Holds.fr0 {A : List Hw.Item} {w w' : World} (h : Holds A w) (k : Fr0 w w') : Holds A w' :=
  ⟨fun i hi => i.loc w w' (fun b hb => k.keep b (h.lt i hi b hb) (fun f => f.elim)) (h.φ i hi), fun i hi b hb => Nat.lt_of_lt_of_le (h.lt i hi b hb) k.size, h.disj⟩
theorem set_sameA {α : Type} {l : List α} {o : Nat} {v : α} (h : l[o]? = some v) : l.set o v = l := by
  apply List.ext_getElem?
  intro q
  rw [List.getElem?_set]
  split
  · rename_i hq
    subst hq
    rw [h, if_pos (List.getElem?_eq_some_iff.1 h).1]
  · rfl
def partL (L : List (List Int × Nat)) (l : List Int) : Nat := ((L.find? fun p => p.1 = l).map (·.2)).getD 0
theorem refL_get {q : RefG} (ok : RefOK q) {k : Nat} {l : List Int} (h : (refR q)[k]? = some l) : ∃ n, q.ins[k]? = some n ∧ (refL q)[k]? = some (l, n) := by
  have hk := (List.getElem?_eq_some_iff.1 h).1
  have hk2 : k < q.ins.length := by rw [ok.li]; simpa [refR] using hk
  refine ⟨q.ins[k], List.getElem?_eq_getElem hk2, ?_⟩
  rw [refL, List.getElem?_zip_eq_some]
  exact ⟨h, List.getElem?_eq_getElem hk2⟩
theorem refL_fst {q : RefG} (ok : RefOK q) : (refL q).map (·.1) = refR q := by
  rw [refL, List.map_fst_zip]
  rw [ok.li]; simp [refR]
theorem refR_nodup {q : RefG} (ok : RefOK q) : (refR q).Nodup := ok.srt.imp (fun h e => by rw [e, cmpL_self] at h; omega)
theorem find_at {L : List (List Int × Nat)} (hn : (L.map (·.1)).Nodup) : ∀ {k : Nat} {l : List Int} {n : Nat}, L[k]? = some (l, n) → L.find? (fun p => p.1 = l) = some (l, n) := by
  induction L with
  | nil => intro k l n h; cases h
  | cons x L ih =>
    intro k l n h
    rw [List.map_cons, List.nodup_cons] at hn
    cases k with
    | zero =>
      simp only [List.getElem?_cons_zero, Option.some.injEq] at h
      subst h
      rw [List.find?_cons_of_pos (by simp)]
    | succ k =>
      simp only [List.getElem?_cons_succ] at h
      have hm : l ∈ L.map (·.1) := List.mem_map.2 ⟨_, List.mem_of_getElem? h, rfl⟩
      rw [List.find?_cons_of_neg (by simp only [decide_eq_true_eq]; intro e; exact hn.1 (by rw [e]; exact hm))]
      exact ih hn.2 h
theorem partL_place {q : RefG} (ok : RefOK q) {l : List Int} {k : Nat} {th : Bool} (h : PlaceOK (refR q) l k th) : (th = true → ∃ n, q.ins[k]? = some n ∧ partL (refL q) l = n) ∧ (th = false → partL (refL q) l = 0) := by
  constructor
  · intro ht
    obtain ⟨n, h1, h2⟩ := refL_get ok (h.th.1 ht)
    exact ⟨n, h1, by rw [partL, find_at (by rw [refL_fst ok]; exact refR_nodup ok) h2]; rfl⟩
  · intro ht
    have hn : l ∉ refR q := fun hl => by rw [← h.mem ok.srt, ht] at hl; cases hl
    rw [partL, List.find?_eq_none.2 (fun p hp => ?_)]
    · rfl
    · simp only [decide_eq_true_eq]
      intro e
      exact hn (by rw [← refL_fst ok, ← e]; exact List.mem_map.2 ⟨p, hp, rfl⟩)
theorem partL_width {q : RefG} (ok : RefOK q) {l : List Int} (h : l.length ≠ q.width) : partL (refL q) l = 0 := by
  rw [partL, List.find?_eq_none.2 (fun p hp => ?_)]
  · rfl
  · simp only [decide_eq_true_eq]
    intro e
    exact h (by rw [← e]; exact ok.wid _ (by rw [← refL_fst ok]; exact List.mem_map.2 ⟨p, hp, rfl⟩))
theorem refA_ins {q : RefG} {w : World} (h : Holds (refA q) w) {i n : Nat} (hn : q.ins[i]? = some n) : ∃ b, q.ia = some ⟨b, 0, none⟩ ∧ w.cell? ⟨b, i, none⟩ = some (.int .i64 (n : Int)) := by
  have hi := (List.getElem?_eq_some_iff.1 hn).1
  obtain ⟨b, hb⟩ := row_addr (h.φ _ (.tail _ (.tail _ (.head _)))) (show 0 < q.ins.length by omega)
  have h1 := row_cellsφE hb (h.φ _ (.tail _ (.tail _ (.head _)))) i (.int .i64 (n : Int)) (by simp [ints, insI, hn])
  rw [add_off, Nat.zero_add] at h1
  exact ⟨b, hb, h1⟩

set_option maxRecDepth 10000 in
theorem refPart_calls (q : RefG) (ok : RefOK q) (l : List Int) (a : Option Addr) (m c : Nat) (hm : m ≤ 1099511627776) (w : World) (hr : RI w a m l) (hA : Holds (refA q) w) : Calls Tryz.prog 21 #[ptr q.p, .slice a m c] w fun e w' => e = .returned (.int .i64 (partL (refL q) l : Int)) ∧ Fr0 w w' := by
  refine enterS (args := [ptr q.p, .slice a m c]) (fun _ => False) Tryz.func21 rfl Tryz.ntmps21 rfl rfl ?_
  refine WC.seq ?_
  refine WC.region ?_
  refine WL.val (OV.assign rfl) rfl ?_
  refine WL.nil ?_
  refine WX.next ?_
  refine WC.seq ?_
  refine WC.seq ?_
  refine WC.region ?_
  refine WL.val (OV.move rfl) rfl ?_
  first
  | (refine WL.val (OV.lenSlice rfl T.u32) rfl ?_)
  | (refine WL.val (OV.lenStr rfl T.u32) rfl ?_)
  refine WL.val (OV.move rfl) rfl ?_
  refine WL.val (OV.nilCheck rfl) rfl ?_
  first
  | (refine WL.val (OV.fieldAddr0 (off := 0) rfl T.u68 rfl) rfl ?_)
  | (refine WL.val (OV.fieldAddr (off := 0) rfl T.u68 rfl) rfl ?_)
  refine WL.val (OV.load1 (v := .int .i64 (q.width : Int)) rfl T.u3 rfl (fun _ hw => hw.keeps _ _ (cell_at (hA.φ _ (.head _)) (o := 0) rfl).1)) rfl ?_
  refine WL.val (OV.neq rfl rfl) rfl ?_
  refine WL.nil ?_
  refine WX.next ?_
  refine WC.cond rfl (fun c13 => ?_) (fun c13 => ?_)
  · try simp only [decide_eq_true_eq, decide_eq_false_iff_not, Bool.not_eq_true', Bool.not_eq_false'] at c13
    refine WC.seq ?_
    refine WC.region ?_
    refine WL.val (OV.assign rfl) rfl ?_
    refine WL.nil ?_
    refine WX.next ?_
    refine WC.ret ?_
    refine WX.then_ret ?_
    exact WX.ret1 rfl rfl rfl (fun w' hw => ⟨by rw [partL_width ok (by have := hr.1; omega)]; rfl, hw.fr⟩)
  · try simp only [decide_eq_true_eq, decide_eq_false_iff_not, Bool.not_eq_true', Bool.not_eq_false'] at c13
    refine WC.skip ?_
    refine WX.next ?_
    refine WC.seq ?_
    refine WC.region ?_
    refine WL.val (OV.move rfl) rfl ?_
    refine WL.val (OV.move rfl) rfl ?_
    have hml := hr.1
    refine WL.call (ι := Nat × Bool) (vv := fun z => .tuple #[.int .i64 ((z.1 : Nat) : Int), .bool z.2]) (SS := fun z w' => PlaceOK (refR q) l z.1 z.2 ∧ Sat w (fun _ => False) (fun b => b < w.heap.size) w ([]) w') (by kernel_rfl) rfl rfl (fun w' hw' => (place_calls q ok l a m c (by omega) hm w' (hr.keeps hw'.keeps) (hA.fr0 hw'.fr)).mono (fun en w'' ⟨k, th, h1, h2, h3⟩ => ⟨(k, th), h1, h2, hw'.keep h3⟩)) ?_
    rintro ⟨k, th⟩
    refine WL.pure (fun hplace => ?_)
    have hpl := partL_place ok hplace
    refine WL.val (OV.move rfl) rfl ?_
    refine WL.val (OV.extract rfl rfl) rfl ?_
    refine WL.val (OV.extract rfl rfl) rfl ?_
    refine WL.val (OV.assign rfl) rfl ?_
    refine WL.val (OV.assign rfl) rfl ?_
    refine WL.nil ?_
    refine WX.next ?_
    refine WC.seq ?_
    refine WC.seq ?_
    refine WC.region ?_
    refine WL.val (OV.move rfl) rfl ?_
    refine WL.val (OV.not rfl) rfl ?_
    refine WL.nil ?_
    refine WX.next ?_
    refine WC.cond rfl (fun c21 => ?_) (fun c21 => ?_)
    · try simp only [decide_eq_true_eq, decide_eq_false_iff_not, Bool.not_eq_true', Bool.not_eq_false'] at c21
      refine WC.seq ?_
      refine WC.region ?_
      refine WL.val (OV.assign rfl) rfl ?_
      refine WL.nil ?_
      refine WX.next ?_
      refine WC.ret ?_
      refine WX.then_ret ?_
      exact WX.ret1 rfl rfl rfl (fun w' hw => ⟨by rw [hpl.2 (by simpa using c21)]; rfl, hw.fr⟩)
    · try simp only [decide_eq_true_eq, decide_eq_false_iff_not, Bool.not_eq_true', Bool.not_eq_false'] at c21
      refine WC.skip ?_
      refine WX.next ?_
      refine WC.seq ?_
      refine WC.region ?_
      refine WL.val (OV.move rfl) rfl ?_
      refine WL.val (OV.nilCheck rfl) rfl ?_
      first
      | (refine WL.val (OV.fieldAddr0 (off := 2) rfl T.u68 rfl) rfl ?_)
      | (refine WL.val (OV.fieldAddr (off := 2) rfl T.u68 rfl) rfl ?_)
      refine WL.val (OV.load1 (v := .slice q.ia q.ins.length q.ic) rfl T.u32 rfl (fun _ hw => hw.keeps _ _ (cell_at (hA.φ _ (.head _)) (o := 2) rfl).1)) rfl ?_
      refine WL.val (OV.move rfl) rfl ?_
      obtain ⟨n, hn, hpn⟩ := hpl.1 (by simpa using c21)
      obtain ⟨b0, hb0, hc⟩ := refA_ins hA hn
      have hkn := (List.getElem?_eq_some_iff.1 hn).1
      refine WL.val (OV.indexSliceA (a := ⟨b0, 0, none⟩) (i := k) (show _ = some (Value.slice (some ⟨b0, 0, none⟩) q.ins.length q.ic) by rw [← hb0]; rfl) rfl T.u32 T.z3 (by omega)) rfl ?_
      refine WL.val (OV.load1 (v := .int .i64 (n : Int)) rfl T.u3 rfl (fun _ hw => hw.keeps _ _ (by rw [add_off, Nat.zero_add]; exact hc))) rfl ?_
      refine WL.val (OV.assign rfl) rfl ?_
      refine WL.nil ?_
      refine WX.next ?_
      refine WC.ret ?_
      exact WX.ret1 rfl rfl rfl (fun w' hw => ⟨by rw [hpn], hw.fr⟩)

def turnN (n : Nat) : Nat := if n = 2 then 1 else if n = 4 then 2 else n
def turnQ (q : RefG) : RefG := { q with ins := q.ins.map turnN }
def n4 (l : List Nat) : Nat := (l.filter fun n => n = 4).length
/-- Turned, up to a place. -/
def tuT (l : List Nat) (i : Nat) : List Nat := (l.take i).map turnN ++ l.drop i
theorem tuT_length (l : List Nat) (i : Nat) : (tuT l i).length = l.length := by simp [tuT]; omega
theorem tuT_get {l : List Nat} {i n : Nat} (h : l[i]? = some n) : (tuT l i)[i]? = some n := by
  have hi := (List.getElem?_eq_some_iff.1 h).1
  rw [tuT, List.getElem?_append_right (by simp; omega)]
  simp [List.length_take, Nat.min_eq_left (Nat.le_of_lt hi), h]
theorem tuT_set {l : List Nat} {i n : Nat} (h : l[i]? = some n) : (tuT l i).set i (turnN n) = tuT l (i + 1) := by
  obtain ⟨hi, rfl⟩ := List.getElem?_eq_some_iff.1 h
  rw [tuT, tuT, List.set_append_right _ _ (by simp; omega)]
  simp only [List.length_map, List.length_take, Nat.min_eq_left (Nat.le_of_lt hi), Nat.sub_self]
  rw [List.drop_eq_getElem_cons hi, List.take_add_one, List.getElem?_eq_getElem hi, List.map_append, List.append_assoc]
  rfl
theorem tuT_same {l : List Nat} {i n : Nat} (h : l[i]? = some n) (ht : turnN n = n) : tuT l i = tuT l (i + 1) := by
  rw [← tuT_set h, ht]
  exact (set_sameA (tuT_get h)).symm
theorem n4_take {l : List Nat} {i n : Nat} (h : l[i]? = some n) : n4 (l.take (i + 1)) = n4 (l.take i) + if n = 4 then 1 else 0 := by
  rw [n4, n4, List.take_add_one, h, List.filter_append, List.length_append]
  congr 1
  by_cases h4 : n = 4 <;> simp [h4]
theorem n4_le (l : List Nat) : n4 l ≤ l.length := List.length_filter_le _ _
theorem insI_set (l : List Nat) (i n : Nat) : (ints (insI l)).set i (.int .i64 (n : Int)) = ints (insI (l.set i n)) := by simp [ints, insI, List.map_set]

set_option maxRecDepth 10000 in
theorem refTurn_calls (q : RefG) (ok : RefOK q) (w : World) (hA : Holds (refA q) w) : Calls Tryz.prog 20 #[ptr q.p] w fun e w' => e = .returned (.int .i64 (n4 q.ins : Int)) ∧ Turns (refA q) (refA (turnQ q)) w w' := by
  refine enterA hA (args := [ptr q.p]) Tryz.func20 rfl Tryz.ntmps20 rfl rfl ?_
  refine WC.seq ?_
  refine WC.region ?_
  refine WL.val (OV.assign rfl) rfl ?_
  refine WL.nil ?_
  refine WX.next ?_
  refine WC.seq ?_
  refine WC.region ?_
  refine WL.val (OV.assign rfl) rfl ?_
  refine WL.nil ?_
  refine WX.next ?_
  refine WC.seq ?_
  refine WC.seq ?_
  refine WC.region ?_
  refine WL.val (OV.assign rfl) rfl ?_
  refine WL.nil ?_
  refine WX.next ?_
  refine WC.block ?_
  have hcl := ok.cl
  have hli := ok.li
  refine WC.weak (S' := fun w' => (0 < q.ins.length → ∃ b, q.ia = some ⟨b, 0, none⟩) ∧ Sat w (DD (refA q)) (fun b => b < w.heap.size ∧ ¬ DD (refA q) b) w (row 3 1 q.ia q.ins.length q.ic (ints (insI (tuT q.ins 0))) :: own q.p (.cells (refC q).toArray 68 (0, 0)) :: rowsA q.aa q.ac q.cols :: q.cols.flatMap colA) w') (fun w' hw => ⟨fun hp => row_addr (hw.it _ (.tail _ (.tail _ (.head _)))) hp, (hw.perm (perm_pick [_, _, _] [2, 0, 1] (by decide) rfl))⟩) ?_
  refine WC.pure (fun hia => ?_)
  refine WC.loop1 (fun (i : Nat) => [(0, ptr q.p), (3, .int .i64 (n4 (q.ins.take i) : Int)), (4, .int .i64 (i : Int))])
      (fun i w' => i ≤ q.ins.length ∧ Sat w (DD (refA q)) (fun b => b < w.heap.size ∧ ¬ DD (refA q) b) w (row 3 1 q.ia q.ins.length q.ic (ints (insI (tuT q.ins i))) :: own q.p (.cells (refC q).toArray 68 (0, 0)) :: rowsA q.aa q.ac q.cols :: q.cols.flatMap colA) w')
      (fun i => q.ins.length - i) 0 ⟨rfl, rfl, rfl, trivial⟩ (fun w' hw => ⟨by omega, hw⟩) ?_
  intro i
  refine WC.pure (fun hi => ?_)
  refine WC.seq ?_
  refine WC.seq ?_
  refine WC.region ?_
  refine WL.val (OV.move rfl) rfl ?_
  refine WL.val (OV.move rfl) rfl ?_
  refine WL.val (OV.nilCheck rfl) rfl ?_
  first
  | (refine WL.val (OV.fieldAddr0 (off := 2) rfl T.u68 rfl) rfl ?_)
  | (refine WL.val (OV.fieldAddr (off := 2) rfl T.u68 rfl) rfl ?_)
  refine WL.val (OV.load1 (v := .slice q.ia q.ins.length q.ic) rfl T.u32 rfl (fun _ hw => cell_own hw (.tail _ (.head _)) rfl)) rfl ?_
  first
  | (refine WL.val (OV.lenSlice rfl T.u32) rfl ?_)
  | (refine WL.val (OV.lenStr rfl T.u32) rfl ?_)
  refine WL.val (OV.lss rfl rfl) rfl ?_
  refine WL.nil ?_
  refine WX.next ?_
  refine WC.cond rfl (fun c11 => ?_) (fun c11 => ?_)
  · try simp only [decide_eq_true_eq, decide_eq_false_iff_not, Bool.not_eq_true', Bool.not_eq_false'] at c11
    refine WC.skip ?_
    refine WX.next ?_
    refine WC.seq ?_
    refine WC.block ?_
    refine WC.seq ?_
    refine WC.region ?_
    refine WL.val (OV.move rfl) rfl ?_
    refine WL.val (OV.nilCheck rfl) rfl ?_
    first
    | (refine WL.val (OV.fieldAddr0 (off := 2) rfl T.u68 rfl) rfl ?_)
    | (refine WL.val (OV.fieldAddr (off := 2) rfl T.u68 rfl) rfl ?_)
    refine WL.val (OV.load1 (v := .slice q.ia q.ins.length q.ic) rfl T.u32 rfl (fun _ hw => cell_own hw (.tail _ (.head _)) rfl)) rfl ?_
    refine WL.val (OV.move rfl) rfl ?_
    obtain ⟨n, hn⟩ : ∃ n, q.ins[i]? = some n := ⟨_, List.getElem?_eq_getElem (by omega)⟩
    obtain ⟨b0, hb0⟩ := hia (by omega)
    refine WL.val (OV.indexSliceA (a := ⟨b0, 0, none⟩) (i := i) (show _ = some (Value.slice (some ⟨b0, 0, none⟩) q.ins.length q.ic) by rw [← hb0]; rfl) rfl T.u32 T.z3 (by omega)) rfl ?_
    refine WL.val (OV.load1 (v := .int .i64 (n : Int)) rfl T.u3 rfl (fun _ hw => row_cellsE hw hb0 (.head _) i _ (by have := tuT_get hn; simp [ints, insI, this]))) rfl ?_
    refine WL.nil ?_
    refine WX.next ?_
    refine WC.block ?_
    refine WC.seq ?_
    refine WC.region ?_
    refine WL.val (OV.eql rfl rfl) rfl ?_
    refine WL.val (OV.assign rfl) rfl ?_
    refine WL.nil ?_
    refine WX.next ?_
    refine WC.cond rfl (fun c21 => ?_) (fun c21 => ?_)
    · try simp only [decide_eq_true_eq, decide_eq_false_iff_not, Bool.not_eq_true', Bool.not_eq_false'] at c21
      refine WC.region ?_
      refine WL.val (OV.move rfl) rfl ?_
      refine WL.val (OV.nilCheck rfl) rfl ?_
      first
      | (refine WL.val (OV.fieldAddr0 (off := 2) rfl T.u68 rfl) rfl ?_)
      | (refine WL.val (OV.fieldAddr (off := 2) rfl T.u68 rfl) rfl ?_)
      refine WL.val (OV.load1 (v := .slice q.ia q.ins.length q.ic) rfl T.u32 rfl (fun _ hw => cell_own hw (.tail _ (.head _)) rfl)) rfl ?_
      refine WL.val (OV.move rfl) rfl ?_
      refine WL.val ((OV.indexSliceA (a := ⟨b0, 0, none⟩) (i := i) (show _ = some (Value.slice (some ⟨b0, 0, none⟩) q.ins.length q.ic) by rw [← hb0]; rfl) rfl T.u32 T.z3 (by omega)).cast (u := .pointer (some ⟨b0, i, none⟩)) (by rw [add_off, Nat.zero_add])) rfl ?_
      refine WL.storeRow (o := i) (v := .int .i64 ((1 : Nat) : Int)) rfl hb0 rfl rfl T.z3 (by rw [ints_length, insI_length, tuT_length]; omega) ?_
      rw [insI_set]
      refine WL.nil ?_
      refine WX.block_normal ?_
      refine WX.block_normal ?_
      refine WX.next ?_
      refine WC.region ?_
      refine WL.val (OV.move rfl) rfl ?_
      first
      | (refine WL.val (OV.addI rfl rfl (by omega)) rfl ?_)
      | (refine WL.val (OV.add rfl rfl) rfl ?_)
      refine WL.val (OV.assign rfl) rfl ?_
      refine WL.nil ?_
      have hn4 := n4_take hn
      have hn5 := n4_le (q.ins.take i)
      have hn2 : n = 2 := by omega
      have hts : (tuT q.ins i).set i 1 = tuT q.ins (i + 1) := by rw [← tuT_set hn, hn2]; rfl
      exact WX.round1 (i + 1) ⟨rfl, by rw [hn4, if_neg (by omega)]; rfl, rfl, trivial⟩ (fun w' hw => ⟨by omega, by
        rw [← hts]
        exact hw⟩) (by show q.ins.length - (i + 1) < q.ins.length - i; omega)
    · try simp only [decide_eq_true_eq, decide_eq_false_iff_not, Bool.not_eq_true', Bool.not_eq_false'] at c21
      refine WC.seq ?_
      refine WC.region ?_
      refine WL.val (OV.eql rfl rfl) rfl ?_
      refine WL.val (OV.assign rfl) rfl ?_
      refine WL.nil ?_
      refine WX.next ?_
      refine WC.cond rfl (fun c29 => ?_) (fun c29 => ?_)
      · try simp only [decide_eq_true_eq, decide_eq_false_iff_not, Bool.not_eq_true', Bool.not_eq_false'] at c29
        refine WC.seq ?_
        refine WC.region ?_
        refine WL.val (OV.move rfl) rfl ?_
        refine WL.val (OV.nilCheck rfl) rfl ?_
        first
        | (refine WL.val (OV.fieldAddr0 (off := 2) rfl T.u68 rfl) rfl ?_)
        | (refine WL.val (OV.fieldAddr (off := 2) rfl T.u68 rfl) rfl ?_)
        refine WL.val (OV.load1 (v := .slice q.ia q.ins.length q.ic) rfl T.u32 rfl (fun _ hw => cell_own hw (.tail _ (.head _)) rfl)) rfl ?_
        refine WL.val (OV.move rfl) rfl ?_
        refine WL.val ((OV.indexSliceA (a := ⟨b0, 0, none⟩) (i := i) (show _ = some (Value.slice (some ⟨b0, 0, none⟩) q.ins.length q.ic) by rw [← hb0]; rfl) rfl T.u32 T.z3 (by omega)).cast (u := .pointer (some ⟨b0, i, none⟩)) (by rw [add_off, Nat.zero_add])) rfl ?_
        refine WL.storeRow (o := i) (v := .int .i64 ((2 : Nat) : Int)) rfl hb0 rfl rfl T.z3 (by rw [ints_length, insI_length, tuT_length]; omega) ?_
        rw [insI_set]
        refine WL.nil ?_
        refine WX.next ?_
        refine WC.region ?_
        refine WL.val (OV.move rfl) rfl ?_
        have hn6 := n4_le (q.ins.take i)
        rw [List.length_take] at hn6
        refine WL.val (OV.addI (a := (n4 (q.ins.take i) : Int)) (b := 1) rfl rfl (by omega)) rfl ?_
        refine WL.val (OV.assign rfl) rfl ?_
        refine WL.nil ?_
        refine WX.block_normal ?_
        refine WX.block_normal ?_
        refine WX.next ?_
        refine WC.region ?_
        refine WL.val (OV.move rfl) rfl ?_
        first
        | (refine WL.val (OV.addI rfl rfl (by omega)) rfl ?_)
        | (refine WL.val (OV.add rfl rfl) rfl ?_)
        refine WL.val (OV.assign rfl) rfl ?_
        refine WL.nil ?_
        have hn4 := n4_take hn
        have hn5 := n4_le (q.ins.take i)
        have hn2 : n = 4 := by omega
        have hts : (tuT q.ins i).set i 2 = tuT q.ins (i + 1) := by rw [← tuT_set hn, hn2]; rfl
        exact WX.round1 (i + 1) ⟨rfl, by rw [hn4, if_pos hn2]; rfl, rfl, trivial⟩ (fun w' hw => ⟨by omega, by
          rw [← hts]
          exact hw⟩) (by show q.ins.length - (i + 1) < q.ins.length - i; omega)
      · try simp only [decide_eq_true_eq, decide_eq_false_iff_not, Bool.not_eq_true', Bool.not_eq_false'] at c29
        refine WC.skip ?_
        refine WX.block_normal ?_
        refine WX.block_normal ?_
        refine WX.next ?_
        refine WC.region ?_
        refine WL.val (OV.move rfl) rfl ?_
        first
        | (refine WL.val (OV.addI rfl rfl (by omega)) rfl ?_)
        | (refine WL.val (OV.add rfl rfl) rfl ?_)
        refine WL.val (OV.assign rfl) rfl ?_
        refine WL.nil ?_
        have hn4 := n4_take hn
        have hn5 := n4_le (q.ins.take i)
        have hts : tuT q.ins i = tuT q.ins (i + 1) := tuT_same hn (by unfold turnN; rw [if_neg (by omega), if_neg (by omega)])
        exact WX.round1 (i + 1) ⟨rfl, by rw [hn4, if_neg (by omega)]; rfl, rfl, trivial⟩ (fun w' hw => ⟨by omega, by
          rw [← hts]
          exact hw⟩) (by show q.ins.length - (i + 1) < q.ins.length - i; omega)
  · try simp only [decide_eq_true_eq, decide_eq_false_iff_not, Bool.not_eq_true', Bool.not_eq_false'] at c11
    refine WC.exit ?_
    refine WX.then_exit ?_
    refine WX.then_exit ?_
    refine WX.block_hit ?_
    refine WX.next ?_
    refine WC.seq ?_
    refine WC.region ?_
    refine WL.val (OV.move rfl) rfl ?_
    refine WL.val (OV.assign rfl) rfl ?_
    refine WL.nil ?_
    refine WX.next ?_
    refine WC.ret ?_
    have hie : i = q.ins.length := by omega
    subst hie
    rw [List.take_length]
    exact WX.ret1 rfl rfl rfl (fun w' hw => ⟨rfl, by
      have e1 : tuT q.ins q.ins.length = q.ins.map turnN := by simp [tuT]
      rw [e1] at hw
      have h1 := hw.perm (perm_pick [_, _, _] [1, 2, 0] (by decide) rfl)
      have e2 : refA (turnQ q) = own q.p (.cells (refC q).toArray 68 (0, 0)) :: rowsA q.aa q.ac q.cols :: row 3 1 q.ia q.ins.length q.ic (ints (insI (q.ins.map turnN))) :: q.cols.flatMap colA := by
        show own q.p (.cells ([.int .i64 (q.width : Int), .slice q.aa q.cols.length q.ac, .slice q.ia (q.ins.map turnN).length q.ic] : List Value).toArray 68 (0, 0)) :: rowsA q.aa q.ac q.cols :: row 3 1 q.ia (q.ins.map turnN).length q.ic (ints (insI (q.ins.map turnN))) :: q.cols.flatMap colA = _
        rw [List.length_map]
        rfl
      rw [e2]
      exact h1.turned⟩)

end Go.Proofs.YtijplknkpkmblaaGreatDoor
