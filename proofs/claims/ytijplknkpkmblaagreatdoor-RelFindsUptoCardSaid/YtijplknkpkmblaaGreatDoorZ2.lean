/- Contracts of functions of the program: what each returns and leaves in memory. Printed by gen.py and walk.py. -/
import Derived.Test.YtijplknkpkmblaaGreatDoorZ1
namespace Go.Proofs.YtijplknkpkmblaaGreatDoor
open Go Go.Hw
set_option linter.unusedSimpArgs false
set_option linter.unusedVariables false
def rowsQ (q : RefG) (parts : Int) : List (List Int) := ((refL q).filter fun p => inP parts p.2).map (·.1)
theorem rowsQ_len {q : RefG} (ok : RefOK q) (parts : Int) : (rowsQ q parts).length ≤ q.cols.length := by
  rw [rowsQ, List.length_map]
  refine Nat.le_trans (List.length_filter_le _ _) ?_
  rw [refL, List.length_zip, ok.li]
  simp [refR]
theorem rowsQ_mem {q : RefG} (ok : RefOK q) {parts : Int} {l : List Int} (h : l ∈ rowsQ q parts) : l ∈ refR q := by
  obtain ⟨p, hp, rfl⟩ := List.mem_map.1 h
  rw [← refL_fst ok]
  exact List.mem_map.2 ⟨p, (List.mem_filter.1 hp).1, rfl⟩
theorem sub_flat {α β : Type} (f : α → List β) {l m : List α} (h : l.Sublist m) : (l.flatMap f).Sublist (m.flatMap f) := by
  induction h with
  | slnil => exact List.Sublist.refl _
  | cons a _ ih => rw [List.flatMap_cons]; exact ih.trans (List.sublist_append_right _ _)
  | cons_cons a _ ih => rw [List.flatMap_cons, List.flatMap_cons]; exact (List.Sublist.refl _).append ih
theorem filt_snoc {α : Type} {L : List α} {f : α → Bool} {i : Nat} {x : α} (h : L[i]? = some x) : (L.take (i + 1)).filter f = (L.take i).filter f ++ if f x then [x] else [] := by
  rw [List.take_add_one, h, List.filter_append]
  congr 1
  by_cases hf : f x <;> simp [hf]

set_option maxRecDepth 10000 in
theorem refRows_calls (q : RefG) (ok : RefOK q) (parts : Int) (w : World) (hA : Holds (refA q) w) : Calls Tryz.prog 25 #[ptr q.p, .int .i64 parts] w fun e w' => ∃ la lc ys, e = .returned (.slice la ys.length lc) ∧ ys.map Col.l = rowsQ q parts ∧ Turns [] (lstA la lc ys) w w' := by
  refine enterS (args := [ptr q.p, .int .i64 parts]) (fun _ => False) Tryz.func25 rfl Tryz.ntmps25 rfl rfl ?_
  refine WC.seq ?_
  refine WC.region ?_
  refine WL.val (OV.assign rfl) rfl ?_
  refine WL.nil ?_
  refine WX.next ?_
  refine WC.seq ?_
  refine WC.region ?_
  refine WL.val (OV.assign rfl) rfl ?_
  refine WL.nil ?_
  refine WX.next ?_
  refine WC.seq ?_
  refine WC.seq ?_
  refine WC.region ?_
  refine WL.val (OV.assign rfl) rfl ?_
  refine WL.nil ?_
  refine WX.next ?_
  refine WC.block ?_
  have hcl := ok.cl
  have hli := ok.li
  refine WC.loop4 (fun (i : Nat) (la : Option Addr) (lc : Nat) (ys : List Col) => [(0, ptr q.p), (1, .int .i64 parts), (5, .slice la ys.length lc), (6, .int .i64 (i : Int))])
      (fun i la lc ys w' => (i ≤ q.cols.length ∧ ys.map Col.l = (((refL q).take i).filter fun p => inP parts p.2).map (·.1)) ∧ Sat w (fun _ => False) (fun b => b < w.heap.size) w (lstA la lc ys) w')
      (fun i _ _ _ => q.cols.length - i) 0 none 0 [] ⟨rfl, rfl, rfl, rfl, trivial⟩ (fun w' hw => ⟨⟨by omega, by simp⟩, hw.rowNil 32 1⟩) ?_
  intro i la lc ys
  refine WC.pure (fun hi => ?_)
  obtain ⟨hi, heq⟩ := hi
  have hyl0 : ys.length ≤ q.cols.length := by
    have h1 := congrArg List.length heq
    rw [List.length_map, List.length_map] at h1
    have h2 := List.length_filter_le (fun p : List Int × Nat => inP parts p.2) ((refL q).take i)
    rw [List.length_take] at h2
    omega
  refine WC.seq ?_
  refine WC.seq ?_
  refine WC.region ?_
  refine WL.val (OV.move rfl) rfl ?_
  refine WL.val (OV.move rfl) rfl ?_
  refine WL.val (OV.nilCheck rfl) rfl ?_
  first
  | (refine WL.val (OV.fieldAddr0 (off := 1) rfl T.u68 rfl) rfl ?_)
  | (refine WL.val (OV.fieldAddr (off := 1) rfl T.u68 rfl) rfl ?_)
  refine WL.val (OV.load1 (v := .slice q.aa q.cols.length q.ac) rfl T.u48 rfl (fun _ hw => hw.keeps _ _ (cell_at (hA.φ _ (.head _)) (o := 1) rfl).1)) rfl ?_
  first
  | (refine WL.val (OV.lenSlice rfl T.u48) rfl ?_)
  | (refine WL.val (OV.lenStr rfl T.u48) rfl ?_)
  refine WL.val (OV.lss rfl rfl) rfl ?_
  refine WL.nil ?_
  refine WX.next ?_
  refine WC.cond rfl (fun c13 => ?_) (fun c13 => ?_)
  · try simp only [decide_eq_true_eq, decide_eq_false_iff_not, Bool.not_eq_true', Bool.not_eq_false'] at c13
    refine WC.skip ?_
    refine WX.next ?_
    refine WC.seq ?_
    refine WC.block ?_
    refine WC.seq ?_
    refine WC.region ?_
    refine WL.val (OV.move rfl) rfl ?_
    refine WL.val (OV.move rfl) rfl ?_
    refine WL.val (OV.nilCheck rfl) rfl ?_
    first
    | (refine WL.val (OV.fieldAddr0 (off := 2) rfl T.u68 rfl) rfl ?_)
    | (refine WL.val (OV.fieldAddr (off := 2) rfl T.u68 rfl) rfl ?_)
    refine WL.val (OV.load1 (v := .slice q.ia q.ins.length q.ic) rfl T.u32 rfl (fun _ hw => hw.keeps _ _ (cell_at (hA.φ _ (.head _)) (o := 2) rfl).1)) rfl ?_
    refine WL.val (OV.move rfl) rfl ?_
    obtain ⟨y, hy, hym, hyl⟩ := col_at (ys := q.cols) rfl (k := i) (by omega)
    obtain ⟨n, hn, hln⟩ := refL_get ok (show (refR q)[i]? = some y.l from hyl)
    obtain ⟨b0, hb0, hic⟩ := refA_ins hA hn
    obtain ⟨b1, hb1, hyc, hyr⟩ := refA_row hA hy
    have hyrl := ok.rl y.l (List.mem_map.2 ⟨y, hym, rfl⟩)
    have hin := (List.getElem?_eq_some_iff.1 hn).1
    have hfs := filt_snoc (f := fun p : List Int × Nat => inP parts p.2) hln
    refine WL.val (OV.indexSliceA (a := ⟨b0, 0, none⟩) (i := i) (show _ = some (Value.slice (some ⟨b0, 0, none⟩) q.ins.length q.ic) by rw [← hb0]; rfl) rfl T.u32 T.z3 (by omega)) rfl ?_
    refine WL.val (OV.load1 (v := .int .i64 (n : Int)) rfl T.u3 rfl (fun _ hw => hw.keeps _ _ (by rw [add_off, Nat.zero_add]; exact hic))) rfl ?_
    first
    | (refine WL.val (OV.andW rfl rfl) rfl ?_)
    | (refine WL.val (OV.andB rfl rfl) rfl ?_)
    | (refine WL.val (OV.and rfl rfl) rfl ?_)
    refine WL.val (OV.neq rfl rfl) rfl ?_
    refine WL.nil ?_
    refine WX.next ?_
    refine WC.cond rfl (fun c25 => ?_) (fun c25 => ?_)
    · try simp only [decide_eq_true_eq, decide_eq_false_iff_not, Bool.not_eq_true', Bool.not_eq_false'] at c25
      refine WC.region ?_
      refine WL.val (OV.move rfl) rfl ?_
      refine WL.val (OV.move rfl) rfl ?_
      refine WL.val (OV.nilCheck rfl) rfl ?_
      first
      | (refine WL.val (OV.fieldAddr0 (off := 1) rfl T.u68 rfl) rfl ?_)
      | (refine WL.val (OV.fieldAddr (off := 1) rfl T.u68 rfl) rfl ?_)
      refine WL.val (OV.load1 (v := .slice q.aa q.cols.length q.ac) rfl T.u48 rfl (fun _ hw => hw.keeps _ _ (cell_at (hA.φ _ (.head _)) (o := 1) rfl).1)) rfl ?_
      refine WL.val (OV.move rfl) rfl ?_
      refine WL.val (OV.indexSliceA (a := ⟨b1, 0, none⟩) (i := i) (show _ = some (Value.slice (some ⟨b1, 0, none⟩) q.cols.length q.ac) by rw [← hb1]; rfl) rfl T.u48 T.z32 (by omega)) rfl ?_
      refine WL.val (OV.load1 (v := encC y) rfl T.u32 rfl (fun _ hw => hw.keeps _ _ (by rw [add_off, Nat.zero_add]; exact hyc))) rfl ?_
      refine WL.call (ι := Col) (vs := [encC y]) (vv := fun z => encC z) (SS := fun z w' => z.l = y.l ∧ Sat w (fun _ => False) (fun b => b < w.heap.size) w (row 3 1 z.a z.l.length z.c (ints z.l) :: lstA la lc ys) w') (by kernel_rfl) rfl rfl (fun w' hw' => (copied_calls y.l y.a y.l.length y.c hyrl w' (hyr.keeps hw'.keeps)).mono (fun en w'' ⟨z, h1, h2, h3, h4⟩ => ⟨z, h1, h2, hw'.fresh h3 h4.1 h4.2⟩)) ?_
      intro y2
      refine WL.pure (fun hy2 => ?_)
      refine WL.buildSlice1 (v := encC y2) T.u48 T.z32 T.zr32 rfl rfl rfl ?_
      intro b35
      refine WL.focus perm2 (WL.append (news := [encC y2]) rfl rfl T.apR (fun _ _ => own_src (.tail _ (.head _)) rfl) (encC_one [y2]) ⟨by omega, by unfold maxLen; omega⟩ rfl ?_)
      intro a36 c36
      refine WL.val (OV.assign rfl) rfl ?_
      refine WL.nil ?_
      refine WX.block_normal ?_
      refine WX.next ?_
      refine WC.region ?_
      refine WL.val (OV.move rfl) rfl ?_
      first
      | (refine WL.val (OV.addI rfl rfl (by omega)) rfl ?_)
      | (refine WL.val (OV.add rfl rfl) rfl ?_)
      refine WL.val (OV.assign rfl) rfl ?_
      refine WL.nil ?_
      rw [if_pos (by simpa [inP] using c25)] at hfs
      have el : ys.length + 1 = (ys ++ [y2]).length := by simp
      have em : ys.map encC ++ [encC y2] = (ys ++ [y2]).map encC := by simp
      exact WX.round4 (i + 1) a36 c36 (ys ++ [y2]) ⟨rfl, rfl, by rw [← el]; rfl, rfl, trivial⟩ (fun w' hw => ⟨⟨by omega, by rw [hfs, List.map_append, List.map_append, heq, List.map_singleton, List.map_singleton, hy2]⟩, by
        show Sat _ _ _ _ (row 32 1 a36 (ys ++ [y2]).length c36 ((ys ++ [y2]).map encC) :: (ys ++ [y2]).flatMap colA) _
        rw [← el, ← em, flat_snoc]
        exact hw.pick [[row 32 1 a36 (ys.length + 1) c36 (ys.map encC ++ [encC y2])], [own b35 (.cells [encC y2].toArray 32 (0, 0))], [row 3 1 y2.a y2.l.length y2.c (ints y2.l)], ys.flatMap colA] [0, 3, 2] 4 rfl (by decide) (by decide)⟩) (by show q.cols.length - (i + 1) < q.cols.length - i; omega)
    · try simp only [decide_eq_true_eq, decide_eq_false_iff_not, Bool.not_eq_true', Bool.not_eq_false'] at c25
      refine WC.skip ?_
      refine WX.block_normal ?_
      refine WX.next ?_
      refine WC.region ?_
      refine WL.val (OV.move rfl) rfl ?_
      first
      | (refine WL.val (OV.addI rfl rfl (by omega)) rfl ?_)
      | (refine WL.val (OV.add rfl rfl) rfl ?_)
      refine WL.val (OV.assign rfl) rfl ?_
      refine WL.nil ?_
      rw [if_neg (by simpa [inP] using c25), List.append_nil] at hfs
      exact WX.round4 (i + 1) la lc ys ⟨rfl, rfl, rfl, rfl, trivial⟩ (fun w' hw => ⟨⟨by omega, by rw [hfs]; exact heq⟩, hw⟩) (by show q.cols.length - (i + 1) < q.cols.length - i; omega)
  · try simp only [decide_eq_true_eq, decide_eq_false_iff_not, Bool.not_eq_true', Bool.not_eq_false'] at c13
    refine WC.exit ?_
    refine WX.then_exit ?_
    refine WX.then_exit ?_
    refine WX.block_hit ?_
    refine WX.next ?_
    refine WC.seq ?_
    refine WC.region ?_
    refine WL.val (OV.move rfl) rfl ?_
    refine WL.val (OV.assign rfl) rfl ?_
    refine WL.nil ?_
    refine WX.next ?_
    refine WC.ret ?_
    rw [List.take_of_length_le (by rw [refL, List.length_zip, refR, List.length_map]; omega)] at heq
    exact WX.ret1 rfl rfl rfl (fun w' hw => ⟨la, lc, ys, rfl, heq, hw.turned0⟩)

set_option maxRecDepth 10000 in
theorem refLen_calls (q : RefG) (ok : RefOK q) (parts : Int) (w : World) (hA : Holds (refA q) w) : Calls Tryz.prog 23 #[ptr q.p, .int .i64 parts] w fun e w' => e = .returned (.int .i64 ((rowsQ q parts).length : Int)) ∧ Fr0 w w' := by
  refine enterS (args := [ptr q.p, .int .i64 parts]) (fun _ => False) Tryz.func23 rfl Tryz.ntmps23 rfl rfl ?_
  refine WC.seq ?_
  refine WC.region ?_
  refine WL.val (OV.assign rfl) rfl ?_
  refine WL.nil ?_
  refine WX.next ?_
  refine WC.seq ?_
  refine WC.region ?_
  refine WL.val (OV.move rfl) rfl ?_
  refine WL.val (OV.move rfl) rfl ?_
  refine WL.callTA (ι := Option Addr × Nat × List Col) (vv := fun z => .slice z.1 z.2.2.length z.2.1) (pp := fun z => z.2.2.map Col.l = rowsQ q parts) [] (AA := fun z => lstA z.1 z.2.1 z.2.2) rfl (by kernel_rfl) rfl rfl (fun w' hw' _ => (refRows_calls q ok parts w' (hA.fr0 hw'.fr)).mono (fun en w'' ⟨la, lc, ys, h1, h2, h3⟩ => ⟨(la, lc, ys), h1, h2, h3⟩)) ?_
  rintro ⟨la, lc, ys⟩ hys
  have hys : ys.map Col.l = rowsQ q parts := hys
  first
  | (refine WL.val (OV.lenSlice rfl T.u48) rfl ?_)
  | (refine WL.val (OV.lenStr rfl T.u48) rfl ?_)
  refine WL.val (OV.assign rfl) rfl ?_
  refine WL.nil ?_
  refine WX.next ?_
  refine WC.ret ?_
  exact WX.ret1 rfl rfl rfl (fun w' hw => ⟨by rw [← hys, List.length_map], hw.fr⟩)

set_option maxRecDepth 10000 in
theorem refFits_calls (rr cols key : List Int) (a1 a2 a3 : Option Addr) (n1 c1 n2 c2 n3 c3 : Nat) (h1 : n1 ≤ 1099511627776) (h2 : n2 ≤ 1099511627776) (h3 : n3 ≤ 1099511627776) (w : World) (hlk : cols.length = key.length) (hr1 : RI w a1 n1 rr) (hr2 : RI w a2 n2 cols) (hr3 : RI w a3 n3 key) : Calls Tryz.prog 50 #[.slice a1 n1 c1, .slice a2 n2 c2, .slice a3 n3 c3] w fun e w' => e = .returned (.bool (decide (fitsL rr cols key))) ∧ Fr0 w w' := by
  refine enterS (args := [.slice a1 n1 c1, .slice a2 n2 c2, .slice a3 n3 c3]) (fun _ => False) Tryz.func50 rfl Tryz.ntmps50 rfl rfl ?_
  refine WC.seq ?_
  refine WC.region ?_
  refine WL.val (OV.assign rfl) rfl ?_
  refine WL.nil ?_
  refine WX.next ?_
  refine WC.seq ?_
  refine WC.seq ?_
  refine WC.region ?_
  refine WL.val (OV.assign rfl) rfl ?_
  refine WL.nil ?_
  refine WX.next ?_
  refine WC.block ?_
  have e1 := hr1.1
  have e2 := hr2.1
  have e3 := hr3.1
  refine WC.loop1 (fun (i : Nat) => [(0, .slice a1 n1 c1), (1, .slice a2 n2 c2), (2, .slice a3 n3 c3), (7, .int .i64 (i : Int))])
      (fun i w' => (i ≤ n2 ∧ ∀ p ∈ (cols.zip key).take i, good rr p) ∧ Sat w (fun _ => False) (fun b => b < w.heap.size) w [] w')
      (fun i => n2 - i) 0 ⟨rfl, rfl, rfl, rfl, trivial⟩ (fun w' hw => ⟨⟨by omega, by simp⟩, hw⟩) ?_
  intro i
  refine WC.pure (fun hi => ?_)
  obtain ⟨hi, hgd⟩ := hi
  refine WC.seq ?_
  refine WC.seq ?_
  refine WC.region ?_
  refine WL.val (OV.move rfl) rfl ?_
  refine WL.val (OV.move rfl) rfl ?_
  first
  | (refine WL.val (OV.lenSlice rfl T.u32) rfl ?_)
  | (refine WL.val (OV.lenStr rfl T.u32) rfl ?_)
  refine WL.val (OV.lss rfl rfl) rfl ?_
  refine WL.nil ?_
  refine WX.next ?_
  refine WC.cond rfl (fun c11 => ?_) (fun c11 => ?_)
  · try simp only [decide_eq_true_eq, decide_eq_false_iff_not, Bool.not_eq_true', Bool.not_eq_false'] at c11
    refine WC.skip ?_
    refine WX.next ?_
    refine WC.seq ?_
    refine WC.block ?_
    refine WC.seq ?_
    refine WC.quietS (by kernel_rfl) (by kernel_rfl) (m := 28) rfl ?_
    refine WH.free 0 rfl (by kernel_rfl) (by kernel_rfl) (by kernel_rfl) rfl (fun _ => (fun _ h => h)) (OV.move rfl) rfl (listed' := [true, false, false, false, false, false, false, false, false, false, false, false, false, false, false, false, false, false, false, false, false, false, false, false, false, false, false, false]) rfl ?_
    refine WH.free 1 rfl (by kernel_rfl) (by kernel_rfl) (by kernel_rfl) rfl (fun _ => (fun _ h => h)) (OV.move rfl) rfl (listed' := [true, true, false, false, false, false, false, false, false, false, false, false, false, false, false, false, false, false, false, false, false, false, false, false, false, false, false, false]) rfl ?_
    have hic : i < cols.length := by omega
    have hik : i < key.length := by omega
    obtain ⟨q2, rfl⟩ := hr2.some (by omega)
    obtain ⟨q3, rfl⟩ := hr3.some (by omega)
    refine WH.free 2 rfl (by kernel_rfl) (by kernel_rfl) (by kernel_rfl) rfl (fun _ => (fun _ h => h)) (OV.indexSliceA (i := i) rfl rfl T.u32 T.z3 (by omega)) rfl (listed' := [true, true, true, false, false, false, false, false, false, false, false, false, false, false, false, false, false, false, false, false, false, false, false, false, false, false, false, false]) rfl ?_
    refine WH.take 3 rfl (by kernel_rfl) (by kernel_rfl) (by kernel_rfl) (by kernel_rfl) (fun _ h => h) (OV.load1 (v := .int .i64 (cols.getD i 0)) rfl T.u3 rfl (fun _ hw => (hr2.sat hw).cell hic)) rfl (listed' := [true, true, true, true, false, false, false, false, false, false, false, false, false, false, false, false, false, false, false, false, false, false, false, false, false, false, false, false]) rfl ?_
    refine WH.free 4 rfl (by kernel_rfl) (by kernel_rfl) (by kernel_rfl) rfl (fun _ => (fun _ h => h)) (OV.lss rfl rfl) rfl (listed' := [true, true, true, true, true, false, false, false, false, false, false, false, false, false, false, false, false, false, false, false, false, false, false, false, false, false, false, false]) rfl ?_
    refine WH.free 5 rfl (by kernel_rfl) (by kernel_rfl) (by kernel_rfl) rfl (fun _ => (fun _ h => h)) (OV.move rfl) rfl (listed' := [true, true, true, true, true, true, false, false, false, false, false, false, false, false, false, false, false, false, false, false, false, false, false, false, false, false, false, false]) rfl ?_
    refine WH.split (t := 19) rfl (fun g19 => ?_) (fun g19 => ?_)
    · try simp only [decide_eq_true_eq, decide_eq_false_iff_not, Bool.not_eq_true', Bool.not_eq_false'] at g19
      refine WH.skip 6 (b := true) rfl (by kernel_rfl) (by kernel_rfl) (by kernel_rfl) rfl (fun _ => (fun _ h => h)) rfl rfl rfl rfl (listed' := [true, true, true, true, true, true, true, false, false, false, false, false, false, false, false, false, false, false, false, false, false, false, false, false, false, false, false, false]) rfl ?_
      refine WH.skip 7 (b := true) rfl (by kernel_rfl) (by kernel_rfl) (by kernel_rfl) rfl (fun _ => (fun _ h => h)) rfl rfl rfl rfl (listed' := [true, true, true, true, true, true, true, true, false, false, false, false, false, false, false, false, false, false, false, false, false, false, false, false, false, false, false, false]) rfl ?_
      refine WH.skip 8 (b := true) rfl (by kernel_rfl) (by kernel_rfl) (by kernel_rfl) rfl (fun _ => (fun _ h => h)) rfl rfl rfl rfl (listed' := [true, true, true, true, true, true, true, true, true, false, false, false, false, false, false, false, false, false, false, false, false, false, false, false, false, false, false, false]) rfl ?_
      refine WH.skip 9 (b := true) rfl (by kernel_rfl) (by kernel_rfl) (by kernel_rfl) rfl (fun _ => (fun _ h => h)) rfl rfl rfl rfl (listed' := [true, true, true, true, true, true, true, true, true, true, false, false, false, false, false, false, false, false, false, false, false, false, false, false, false, false, false, false]) rfl ?_
      refine WH.skip 10 (b := true) rfl (by kernel_rfl) (by kernel_rfl) (by kernel_rfl) rfl (fun _ => (fun _ h => h)) rfl rfl rfl rfl (listed' := [true, true, true, true, true, true, true, true, true, true, true, false, false, false, false, false, false, false, false, false, false, false, false, false, false, false, false, false]) rfl ?_
      refine WH.skip 11 (b := true) rfl (by kernel_rfl) (by kernel_rfl) (by kernel_rfl) rfl (fun _ => (fun _ h => h)) rfl rfl rfl rfl (listed' := [true, true, true, true, true, true, true, true, true, true, true, true, false, false, false, false, false, false, false, false, false, false, false, false, false, false, false, false]) rfl ?_
      refine WH.skip 12 (b := true) rfl (by kernel_rfl) (by kernel_rfl) (by kernel_rfl) rfl (fun _ => (fun _ h => h)) rfl rfl rfl rfl (listed' := [true, true, true, true, true, true, true, true, true, true, true, true, true, false, false, false, false, false, false, false, false, false, false, false, false, false, false, false]) rfl ?_
      refine WH.free 13 rfl (by kernel_rfl) (by kernel_rfl) (by kernel_rfl) rfl (fun _ => (fun _ h => h)) (OV.pickT rfl rfl) rfl (listed' := [true, true, true, true, true, true, true, true, true, true, true, true, true, true, false, false, false, false, false, false, false, false, false, false, false, false, false, false]) rfl ?_
      refine WH.free 14 rfl (by kernel_rfl) (by kernel_rfl) (by kernel_rfl) rfl (fun _ => (fun _ h => h)) (OV.move rfl) rfl (listed' := [true, true, true, true, true, true, true, true, true, true, true, true, true, true, true, false, false, false, false, false, false, false, false, false, false, false, false, false]) rfl ?_
      refine WH.skip 15 (b := true) rfl (by kernel_rfl) (by kernel_rfl) (by kernel_rfl) rfl (fun _ => (fun _ h => h)) rfl rfl rfl rfl (listed' := [true, true, true, true, true, true, true, true, true, true, true, true, true, true, true, true, false, false, false, false, false, false, false, false, false, false, false, false]) rfl ?_
      refine WH.skip 16 (b := true) rfl (by kernel_rfl) (by kernel_rfl) (by kernel_rfl) rfl (fun _ => (fun _ h => h)) rfl rfl rfl rfl (listed' := [true, true, true, true, true, true, true, true, true, true, true, true, true, true, true, true, true, false, false, false, false, false, false, false, false, false, false, false]) rfl ?_
      refine WH.skip 17 (b := true) rfl (by kernel_rfl) (by kernel_rfl) (by kernel_rfl) rfl (fun _ => (fun _ h => h)) rfl rfl rfl rfl (listed' := [true, true, true, true, true, true, true, true, true, true, true, true, true, true, true, true, true, true, false, false, false, false, false, false, false, false, false, false]) rfl ?_
      refine WH.skip 18 (b := true) rfl (by kernel_rfl) (by kernel_rfl) (by kernel_rfl) rfl (fun _ => (fun _ h => h)) rfl rfl rfl rfl (listed' := [true, true, true, true, true, true, true, true, true, true, true, true, true, true, true, true, true, true, true, false, false, false, false, false, false, false, false, false]) rfl ?_
      refine WH.skip 19 (b := true) rfl (by kernel_rfl) (by kernel_rfl) (by kernel_rfl) rfl (fun _ => (fun _ h => h)) rfl rfl rfl rfl (listed' := [true, true, true, true, true, true, true, true, true, true, true, true, true, true, true, true, true, true, true, true, false, false, false, false, false, false, false, false]) rfl ?_
      refine WH.skip 20 (b := true) rfl (by kernel_rfl) (by kernel_rfl) (by kernel_rfl) rfl (fun _ => (fun _ h => h)) rfl rfl rfl rfl (listed' := [true, true, true, true, true, true, true, true, true, true, true, true, true, true, true, true, true, true, true, true, true, false, false, false, false, false, false, false]) rfl ?_
      refine WH.skip 21 (b := true) rfl (by kernel_rfl) (by kernel_rfl) (by kernel_rfl) rfl (fun _ => (fun _ h => h)) rfl rfl rfl rfl (listed' := [true, true, true, true, true, true, true, true, true, true, true, true, true, true, true, true, true, true, true, true, true, true, false, false, false, false, false, false]) rfl ?_
      refine WH.skip 22 (b := true) rfl (by kernel_rfl) (by kernel_rfl) (by kernel_rfl) rfl (fun _ => (fun _ h => h)) rfl rfl rfl rfl (listed' := [true, true, true, true, true, true, true, true, true, true, true, true, true, true, true, true, true, true, true, true, true, true, true, false, false, false, false, false]) rfl ?_
      refine WH.skip 23 (b := true) rfl (by kernel_rfl) (by kernel_rfl) (by kernel_rfl) rfl (fun _ => (fun _ h => h)) rfl rfl rfl rfl (listed' := [true, true, true, true, true, true, true, true, true, true, true, true, true, true, true, true, true, true, true, true, true, true, true, true, false, false, false, false]) rfl ?_
      refine WH.skip 24 (b := true) rfl (by kernel_rfl) (by kernel_rfl) (by kernel_rfl) rfl (fun _ => (fun _ h => h)) rfl rfl rfl rfl (listed' := [true, true, true, true, true, true, true, true, true, true, true, true, true, true, true, true, true, true, true, true, true, true, true, true, true, false, false, false]) rfl ?_
      refine WH.skip 25 (b := true) rfl (by kernel_rfl) (by kernel_rfl) (by kernel_rfl) rfl (fun _ => (fun _ h => h)) rfl rfl rfl rfl (listed' := [true, true, true, true, true, true, true, true, true, true, true, true, true, true, true, true, true, true, true, true, true, true, true, true, true, true, false, false]) rfl ?_
      refine WH.skip 26 (b := true) rfl (by kernel_rfl) (by kernel_rfl) (by kernel_rfl) rfl (fun _ => (fun _ h => h)) rfl rfl rfl rfl (listed' := [true, true, true, true, true, true, true, true, true, true, true, true, true, true, true, true, true, true, true, true, true, true, true, true, true, true, true, false]) rfl ?_
      refine WH.free 27 rfl (by kernel_rfl) (by kernel_rfl) (by kernel_rfl) rfl (fun _ => (fun _ h => h)) (OV.pickT rfl rfl) rfl (listed' := [true, true, true, true, true, true, true, true, true, true, true, true, true, true, true, true, true, true, true, true, true, true, true, true, true, true, true, true]) rfl ?_
      refine WH.done (by kernel_rfl) ?_
      refine WX.next ?_
      refine WC.condT rfl ?_
      refine WC.seq ?_
      refine WC.region ?_
      refine WL.val (OV.assign rfl) rfl ?_
      refine WL.nil ?_
      refine WX.next ?_
      refine WC.ret ?_
      refine WX.block_ret ?_
      refine WX.then_ret ?_
      refine WX.then_ret ?_
      refine WX.block_ret ?_
      refine WX.then_ret ?_
      exact WX.ret1 rfl rfl rfl (fun w' hw => ⟨by rw [decide_eq_false (fun h => absurd (fits_at hic h).1 (by omega))], hw.fr⟩)
    · try simp only [decide_eq_true_eq, decide_eq_false_iff_not, Bool.not_eq_true', Bool.not_eq_false'] at g19
      refine WH.freeG 6 (b := false) rfl (by kernel_rfl) (by kernel_rfl) (by kernel_rfl) rfl (fun _ => (fun _ h => h)) rfl rfl rfl (OV.move rfl) rfl (listed' := [true, true, true, true, true, true, true, false, false, false, false, false, false, false, false, false, false, false, false, false, false, false, false, false, false, false, false, false]) rfl ?_
      refine WH.freeG 7 (b := false) rfl (by kernel_rfl) (by kernel_rfl) (by kernel_rfl) rfl (fun _ => (fun _ h => h)) rfl rfl rfl (OV.move rfl) rfl (listed' := [true, true, true, true, true, true, true, true, false, false, false, false, false, false, false, false, false, false, false, false, false, false, false, false, false, false, false, false]) rfl ?_
      refine WH.freeG 8 (b := false) rfl (by kernel_rfl) (by kernel_rfl) (by kernel_rfl) rfl (fun _ => (fun _ h => h)) rfl rfl rfl (OV.indexSliceA (i := i) rfl rfl T.u32 T.z3 (by omega)) rfl (listed' := [true, true, true, true, true, true, true, true, true, false, false, false, false, false, false, false, false, false, false, false, false, false, false, false, false, false, false, false]) rfl ?_
      refine WH.takeG 9 (b := false) rfl (by kernel_rfl) (by kernel_rfl) (by kernel_rfl) (by kernel_rfl) (fun _ h => h) rfl rfl rfl (OV.load1 (v := .int .i64 (cols.getD i 0)) rfl T.u3 rfl (fun _ hw => (hr2.sat hw).cell hic)) rfl (listed' := [true, true, true, true, true, true, true, true, true, true, false, false, false, false, false, false, false, false, false, false, false, false, false, false, false, false, false, false]) rfl ?_
      refine WH.freeG 10 (b := false) rfl (by kernel_rfl) (by kernel_rfl) (by kernel_rfl) rfl (fun _ => (fun _ h => h)) rfl rfl rfl (OV.move rfl) rfl (listed' := [true, true, true, true, true, true, true, true, true, true, true, false, false, false, false, false, false, false, false, false, false, false, false, false, false, false, false, false]) rfl ?_
      first
      | (refine WH.freeG 11 (b := false) rfl (by kernel_rfl) (by kernel_rfl) (by kernel_rfl) rfl (fun _ => (fun _ h => h)) rfl rfl rfl (OV.lenSlice rfl T.u32) rfl (listed' := [true, true, true, true, true, true, true, true, true, true, true, true, false, false, false, false, false, false, false, false, false, false, false, false, false, false, false, false]) rfl ?_)
      | (refine WH.freeG 11 (b := false) rfl (by kernel_rfl) (by kernel_rfl) (by kernel_rfl) rfl (fun _ => (fun _ h => h)) rfl rfl rfl (OV.lenStr rfl T.u32) rfl (listed' := [true, true, true, true, true, true, true, true, true, true, true, true, false, false, false, false, false, false, false, false, false, false, false, false, false, false, false, false]) rfl ?_)
      refine WH.freeG 12 (b := false) rfl (by kernel_rfl) (by kernel_rfl) (by kernel_rfl) rfl (fun _ => (fun _ h => h)) rfl rfl rfl (OV.geq rfl rfl) rfl (listed' := [true, true, true, true, true, true, true, true, true, true, true, true, true, false, false, false, false, false, false, false, false, false, false, false, false, false, false, false]) rfl ?_
      refine WH.free 13 rfl (by kernel_rfl) (by kernel_rfl) (by kernel_rfl) rfl (fun _ => (fun _ h => h)) (OV.pickF rfl rfl) rfl (listed' := [true, true, true, true, true, true, true, true, true, true, true, true, true, true, false, false, false, false, false, false, false, false, false, false, false, false, false, false]) rfl ?_
      refine WH.free 14 rfl (by kernel_rfl) (by kernel_rfl) (by kernel_rfl) rfl (fun _ => (fun _ h => h)) (OV.move rfl) rfl (listed' := [true, true, true, true, true, true, true, true, true, true, true, true, true, true, true, false, false, false, false, false, false, false, false, false, false, false, false, false]) rfl ?_
      refine WH.split (t := 28) rfl (fun g28 => ?_) (fun g28 => ?_)
      · try simp only [decide_eq_true_eq, decide_eq_false_iff_not, Bool.not_eq_true', Bool.not_eq_false'] at g28
        refine WH.skip 15 (b := true) rfl (by kernel_rfl) (by kernel_rfl) (by kernel_rfl) rfl (fun _ => (fun _ h => h)) rfl rfl rfl rfl (listed' := [true, true, true, true, true, true, true, true, true, true, true, true, true, true, true, true, false, false, false, false, false, false, false, false, false, false, false, false]) rfl ?_
        refine WH.skip 16 (b := true) rfl (by kernel_rfl) (by kernel_rfl) (by kernel_rfl) rfl (fun _ => (fun _ h => h)) rfl rfl rfl rfl (listed' := [true, true, true, true, true, true, true, true, true, true, true, true, true, true, true, true, true, false, false, false, false, false, false, false, false, false, false, false]) rfl ?_
        refine WH.skip 17 (b := true) rfl (by kernel_rfl) (by kernel_rfl) (by kernel_rfl) rfl (fun _ => (fun _ h => h)) rfl rfl rfl rfl (listed' := [true, true, true, true, true, true, true, true, true, true, true, true, true, true, true, true, true, true, false, false, false, false, false, false, false, false, false, false]) rfl ?_
        refine WH.skip 18 (b := true) rfl (by kernel_rfl) (by kernel_rfl) (by kernel_rfl) rfl (fun _ => (fun _ h => h)) rfl rfl rfl rfl (listed' := [true, true, true, true, true, true, true, true, true, true, true, true, true, true, true, true, true, true, true, false, false, false, false, false, false, false, false, false]) rfl ?_
        refine WH.skip 19 (b := true) rfl (by kernel_rfl) (by kernel_rfl) (by kernel_rfl) rfl (fun _ => (fun _ h => h)) rfl rfl rfl rfl (listed' := [true, true, true, true, true, true, true, true, true, true, true, true, true, true, true, true, true, true, true, true, false, false, false, false, false, false, false, false]) rfl ?_
        refine WH.skip 20 (b := true) rfl (by kernel_rfl) (by kernel_rfl) (by kernel_rfl) rfl (fun _ => (fun _ h => h)) rfl rfl rfl rfl (listed' := [true, true, true, true, true, true, true, true, true, true, true, true, true, true, true, true, true, true, true, true, true, false, false, false, false, false, false, false]) rfl ?_
        refine WH.skip 21 (b := true) rfl (by kernel_rfl) (by kernel_rfl) (by kernel_rfl) rfl (fun _ => (fun _ h => h)) rfl rfl rfl rfl (listed' := [true, true, true, true, true, true, true, true, true, true, true, true, true, true, true, true, true, true, true, true, true, true, false, false, false, false, false, false]) rfl ?_
        refine WH.skip 22 (b := true) rfl (by kernel_rfl) (by kernel_rfl) (by kernel_rfl) rfl (fun _ => (fun _ h => h)) rfl rfl rfl rfl (listed' := [true, true, true, true, true, true, true, true, true, true, true, true, true, true, true, true, true, true, true, true, true, true, true, false, false, false, false, false]) rfl ?_
        refine WH.skip 23 (b := true) rfl (by kernel_rfl) (by kernel_rfl) (by kernel_rfl) rfl (fun _ => (fun _ h => h)) rfl rfl rfl rfl (listed' := [true, true, true, true, true, true, true, true, true, true, true, true, true, true, true, true, true, true, true, true, true, true, true, true, false, false, false, false]) rfl ?_
        refine WH.skip 24 (b := true) rfl (by kernel_rfl) (by kernel_rfl) (by kernel_rfl) rfl (fun _ => (fun _ h => h)) rfl rfl rfl rfl (listed' := [true, true, true, true, true, true, true, true, true, true, true, true, true, true, true, true, true, true, true, true, true, true, true, true, true, false, false, false]) rfl ?_
        refine WH.skip 25 (b := true) rfl (by kernel_rfl) (by kernel_rfl) (by kernel_rfl) rfl (fun _ => (fun _ h => h)) rfl rfl rfl rfl (listed' := [true, true, true, true, true, true, true, true, true, true, true, true, true, true, true, true, true, true, true, true, true, true, true, true, true, true, false, false]) rfl ?_
        refine WH.skip 26 (b := true) rfl (by kernel_rfl) (by kernel_rfl) (by kernel_rfl) rfl (fun _ => (fun _ h => h)) rfl rfl rfl rfl (listed' := [true, true, true, true, true, true, true, true, true, true, true, true, true, true, true, true, true, true, true, true, true, true, true, true, true, true, true, false]) rfl ?_
        refine WH.free 27 rfl (by kernel_rfl) (by kernel_rfl) (by kernel_rfl) rfl (fun _ => (fun _ h => h)) (OV.pickT rfl rfl) rfl (listed' := [true, true, true, true, true, true, true, true, true, true, true, true, true, true, true, true, true, true, true, true, true, true, true, true, true, true, true, true]) rfl ?_
        refine WH.done (by kernel_rfl) ?_
        refine WX.next ?_
        refine WC.condT rfl ?_
        refine WC.seq ?_
        refine WC.region ?_
        refine WL.val (OV.assign rfl) rfl ?_
        refine WL.nil ?_
        refine WX.next ?_
        refine WC.ret ?_
        refine WX.block_ret ?_
        refine WX.then_ret ?_
        refine WX.then_ret ?_
        refine WX.block_ret ?_
        refine WX.then_ret ?_
        exact WX.ret1 rfl rfl rfl (fun w' hw => ⟨by rw [decide_eq_false (fun h => absurd (fits_at hic h).2.1 (by omega))], hw.fr⟩)
      · try simp only [decide_eq_true_eq, decide_eq_false_iff_not, Bool.not_eq_true', Bool.not_eq_false'] at g28
        refine WH.freeG 15 (b := false) rfl (by kernel_rfl) (by kernel_rfl) (by kernel_rfl) rfl (fun _ => (fun _ h => h)) rfl rfl rfl (OV.move rfl) rfl (listed' := [true, true, true, true, true, true, true, true, true, true, true, true, true, true, true, true, false, false, false, false, false, false, false, false, false, false, false, false]) rfl ?_
        refine WH.freeG 16 (b := false) rfl (by kernel_rfl) (by kernel_rfl) (by kernel_rfl) rfl (fun _ => (fun _ h => h)) rfl rfl rfl (OV.move rfl) rfl (listed' := [true, true, true, true, true, true, true, true, true, true, true, true, true, true, true, true, true, false, false, false, false, false, false, false, false, false, false, false]) rfl ?_
        refine WH.freeG 17 (b := false) rfl (by kernel_rfl) (by kernel_rfl) (by kernel_rfl) rfl (fun _ => (fun _ h => h)) rfl rfl rfl (OV.move rfl) rfl (listed' := [true, true, true, true, true, true, true, true, true, true, true, true, true, true, true, true, true, true, false, false, false, false, false, false, false, false, false, false]) rfl ?_
        refine WH.freeG 18 (b := false) rfl (by kernel_rfl) (by kernel_rfl) (by kernel_rfl) rfl (fun _ => (fun _ h => h)) rfl rfl rfl (OV.indexSliceA (i := i) rfl rfl T.u32 T.z3 (by omega)) rfl (listed' := [true, true, true, true, true, true, true, true, true, true, true, true, true, true, true, true, true, true, true, false, false, false, false, false, false, false, false, false]) rfl ?_
        refine WH.takeG 19 (b := false) rfl (by kernel_rfl) (by kernel_rfl) (by kernel_rfl) (by kernel_rfl) (fun _ h => h) rfl rfl rfl (OV.load1 (v := .int .i64 (cols.getD i 0)) rfl T.u3 rfl (fun _ hw => (hr2.sat hw).cell hic)) rfl (listed' := [true, true, true, true, true, true, true, true, true, true, true, true, true, true, true, true, true, true, true, true, false, false, false, false, false, false, false, false]) rfl ?_
        obtain ⟨kk, hkk⟩ : ∃ kk : Nat, cols.getD i 0 = (kk : Int) := ⟨(cols.getD i 0).toNat, by omega⟩
        have hkl : kk < rr.length := by omega
        obtain ⟨q1, rfl⟩ := hr1.some (by omega)
        refine WH.freeG 20 (b := false) rfl (by kernel_rfl) (by kernel_rfl) (by kernel_rfl) rfl (fun _ => (fun _ h => h)) rfl rfl rfl (OV.indexSliceA (i := kk) rfl (by rw [← hkk]; rfl) T.u32 T.z3 (by omega)) rfl (listed' := [true, true, true, true, true, true, true, true, true, true, true, true, true, true, true, true, true, true, true, true, true, false, false, false, false, false, false, false]) rfl ?_
        refine WH.takeG 21 (b := false) rfl (by kernel_rfl) (by kernel_rfl) (by kernel_rfl) (by kernel_rfl) (fun _ h => h) rfl rfl rfl (OV.load1 (v := .int .i64 (rr.getD kk 0)) rfl T.u3 rfl (fun _ hw => (hr1.sat hw).cell hkl)) rfl (listed' := [true, true, true, true, true, true, true, true, true, true, true, true, true, true, true, true, true, true, true, true, true, true, false, false, false, false, false, false]) rfl ?_
        refine WH.freeG 22 (b := false) rfl (by kernel_rfl) (by kernel_rfl) (by kernel_rfl) rfl (fun _ => (fun _ h => h)) rfl rfl rfl (OV.move rfl) rfl (listed' := [true, true, true, true, true, true, true, true, true, true, true, true, true, true, true, true, true, true, true, true, true, true, true, false, false, false, false, false]) rfl ?_
        refine WH.freeG 23 (b := false) rfl (by kernel_rfl) (by kernel_rfl) (by kernel_rfl) rfl (fun _ => (fun _ h => h)) rfl rfl rfl (OV.move rfl) rfl (listed' := [true, true, true, true, true, true, true, true, true, true, true, true, true, true, true, true, true, true, true, true, true, true, true, true, false, false, false, false]) rfl ?_
        refine WH.freeG 24 (b := false) rfl (by kernel_rfl) (by kernel_rfl) (by kernel_rfl) rfl (fun _ => (fun _ h => h)) rfl rfl rfl (OV.indexSliceA (i := i) rfl rfl T.u32 T.z3 (by omega)) rfl (listed' := [true, true, true, true, true, true, true, true, true, true, true, true, true, true, true, true, true, true, true, true, true, true, true, true, true, false, false, false]) rfl ?_
        refine WH.takeG 25 (b := false) rfl (by kernel_rfl) (by kernel_rfl) (by kernel_rfl) (by kernel_rfl) (fun _ h => h) rfl rfl rfl (OV.load1 (v := .int .i64 (key.getD i 0)) rfl T.u3 rfl (fun _ hw => (hr3.sat hw).cell hik)) rfl (listed' := [true, true, true, true, true, true, true, true, true, true, true, true, true, true, true, true, true, true, true, true, true, true, true, true, true, true, false, false]) rfl ?_
        refine WH.freeG 26 (b := false) rfl (by kernel_rfl) (by kernel_rfl) (by kernel_rfl) rfl (fun _ => (fun _ h => h)) rfl rfl rfl (OV.neq rfl rfl) rfl (listed' := [true, true, true, true, true, true, true, true, true, true, true, true, true, true, true, true, true, true, true, true, true, true, true, true, true, true, true, false]) rfl ?_
        refine WH.free 27 rfl (by kernel_rfl) (by kernel_rfl) (by kernel_rfl) rfl (fun _ => (fun _ h => h)) (OV.pickF rfl rfl) rfl (listed' := [true, true, true, true, true, true, true, true, true, true, true, true, true, true, true, true, true, true, true, true, true, true, true, true, true, true, true, true]) rfl ?_
        refine WH.done (by kernel_rfl) ?_
        refine WX.next ?_
        refine WC.cond rfl (fun c41 => ?_) (fun c41 => ?_)
        · try simp only [decide_eq_true_eq, decide_eq_false_iff_not, Bool.not_eq_true', Bool.not_eq_false'] at c41
          refine WC.seq ?_
          refine WC.region ?_
          refine WL.val (OV.assign rfl) rfl ?_
          refine WL.nil ?_
          refine WX.next ?_
          refine WC.ret ?_
          refine WX.block_ret ?_
          refine WX.then_ret ?_
          refine WX.then_ret ?_
          refine WX.block_ret ?_
          refine WX.then_ret ?_
          exact WX.ret1 rfl rfl rfl (fun w' hw => ⟨by rw [decide_eq_false (fun h => by have h4 : rr.getD (cols.getD i 0).toNat 0 = key.getD i 0 := (fits_at hic h).2.2; rw [hkk, Int.toNat_natCast] at h4; simp only [List.getD_eq_getElem?_getD] at h4; simp [h4] at c41)], hw.fr⟩)
        · try simp only [decide_eq_true_eq, decide_eq_false_iff_not, Bool.not_eq_true', Bool.not_eq_false'] at c41
          refine WC.skip ?_
          refine WX.block_normal ?_
          refine WX.next ?_
          refine WC.region ?_
          refine WL.val (OV.move rfl) rfl ?_
          first
          | (refine WL.val (OV.addI rfl rfl (by omega)) rfl ?_)
          | (refine WL.val (OV.add rfl rfl) rfl ?_)
          refine WL.val (OV.assign rfl) rfl ?_
          refine WL.nil ?_
          have hv : rr.getD kk 0 = key.getD i 0 := by simpa using c41
          exact WX.round1 (i + 1) ⟨rfl, rfl, rfl, rfl, trivial⟩ (fun w' hw => ⟨⟨by omega, good_take hgd hic hik ⟨by omega, by omega, by rw [hkk, Int.toNat_natCast]; exact hv⟩⟩, hw⟩) (by show n2 - (i + 1) < n2 - i; omega)
  · try simp only [decide_eq_true_eq, decide_eq_false_iff_not, Bool.not_eq_true', Bool.not_eq_false'] at c11
    refine WC.exit ?_
    refine WX.then_exit ?_
    refine WX.then_exit ?_
    refine WX.block_hit ?_
    refine WX.next ?_
    refine WC.seq ?_
    refine WC.region ?_
    refine WL.val (OV.assign rfl) rfl ?_
    refine WL.nil ?_
    refine WX.next ?_
    refine WC.ret ?_
    exact WX.ret1 rfl rfl rfl (fun w' hw => ⟨by rw [decide_eq_true ⟨by omega, by rwa [List.take_of_length_le (by rw [List.length_zip]; omega)] at hgd⟩], hw.fr⟩)

set_option maxRecDepth 10000 in
theorem refFind_calls (q : RefG) (ok : RefOK q) (parts : Int) (cols key : List Int) (a1 : Option Addr) (m1 c1 : Nat) (a2 : Option Addr) (m2 c2 : Nat) (hm1 : m1 ≤ 1099511627776) (hm2 : m2 ≤ 1099511627776) (w : World) (hr1 : RI w a1 m1 cols) (hr2 : RI w a2 m2 key) (hA : Holds (refA q) w) :
  Calls Tryz.prog 40 #[ptr q.p, .int .i64 parts, .slice a1 m1 c1, .slice a2 m2 c2] w fun e w' => ∃ la lc ys, e = .returned (.slice la ys.length lc) ∧ ys.map Col.l = (rowsQ q parts).filter (fun r => decide (fitsL r cols key)) ∧ Turns [] (lstA la lc ys) w w' := by
  refine enterS (args := [ptr q.p, .int .i64 parts, .slice a1 m1 c1, .slice a2 m2 c2]) (fun _ => False) Tryz.func40 rfl Tryz.ntmps40 rfl rfl ?_
  refine WC.seq ?_
  refine WC.region ?_
  refine WL.val (OV.assign rfl) rfl ?_
  refine WL.nil ?_
  refine WX.next ?_
  refine WC.seq ?_
  refine WC.seq ?_
  refine WC.region ?_
  refine WL.val (OV.move rfl) rfl ?_
  first
  | (refine WL.val (OV.lenSlice rfl T.u32) rfl ?_)
  | (refine WL.val (OV.lenStr rfl T.u32) rfl ?_)
  refine WL.val (OV.move rfl) rfl ?_
  first
  | (refine WL.val (OV.lenSlice rfl T.u32) rfl ?_)
  | (refine WL.val (OV.lenStr rfl T.u32) rfl ?_)
  refine WL.val (OV.neq rfl rfl) rfl ?_
  refine WL.nil ?_
  refine WX.next ?_
  refine WC.cond rfl (fun c16 => ?_) (fun c16 => ?_)
  · try simp only [decide_eq_true_eq, decide_eq_false_iff_not, Bool.not_eq_true', Bool.not_eq_false'] at c16
    refine WC.seq ?_
    refine WC.region ?_
    refine WL.val (OV.assign rfl) rfl ?_
    refine WL.nil ?_
    refine WX.next ?_
    refine WC.ret ?_
    refine WX.then_ret ?_
    have hno : (rowsQ q parts).filter (fun r => decide (fitsL r cols key)) = [] := by
      rw [List.filter_eq_nil_iff]
      intro r _ h
      have h1 := (of_decide_eq_true h).1
      have := hr1.1
      have := hr2.1
      apply c16
      omega
    exact WX.ret1 rfl rfl rfl (fun w' hw => ⟨none, 0, [], rfl, by rw [hno]; rfl, (hw.rowNil 32 1).turned0⟩)
  · try simp only [decide_eq_true_eq, decide_eq_false_iff_not, Bool.not_eq_true', Bool.not_eq_false'] at c16
    refine WC.skip ?_
    refine WX.next ?_
    refine WC.seq ?_
    refine WC.region ?_
    refine WL.val (OV.assign rfl) rfl ?_
    refine WL.nil ?_
    refine WX.next ?_
    refine WC.seq ?_
    refine WC.region ?_
    refine WL.val (OV.move rfl) rfl ?_
    refine WL.val (OV.move rfl) rfl ?_
    refine WL.callTA (ι := Option Addr × Nat × List Col) (vv := fun z => .slice z.1 z.2.2.length z.2.1) (pp := fun z => z.2.2.map Col.l = rowsQ q parts) [] (AA := fun z => lstA z.1 z.2.1 z.2.2) rfl (by kernel_rfl) rfl rfl (fun w' hw' _ => (refRows_calls q ok parts w' (hA.fr0 hw'.fr)).mono (fun en w'' ⟨la, lc, ys, h1, h2, h3⟩ => ⟨(la, lc, ys), h1, h2, h3⟩)) ?_
    rintro ⟨za, zc, zs⟩ hzs
    have hzs : zs.map Col.l = rowsQ q parts := hzs
    have hzl : zs.length ≤ q.cols.length := by have h1 := congrArg List.length hzs; rw [List.length_map] at h1; have := rowsQ_len ok parts; omega
    have hcl := ok.cl
    refine WL.val (OV.assign rfl) rfl ?_
    refine WL.nil ?_
    refine WX.next ?_
    refine WC.seq ?_
    refine WC.seq ?_
    refine WC.region ?_
    refine WL.val (OV.assign rfl) rfl ?_
    refine WL.nil ?_
    refine WX.next ?_
    refine WC.block ?_
    refine WC.weak (S' := fun w' => (0 < zs.length → ∃ b, za = some ⟨b, 0, none⟩) ∧ Sat w (fun _ => False) (fun b => b < w.heap.size) w (row 32 1 none 0 0 [] :: lstA za zc zs) w') (fun w' hw => ⟨lst_addr hw (.head _), (hw.rowNil 32 1).perm (List.Perm.of_eq (by simp))⟩) ?_
    refine WC.pure (fun hza => ?_)
    refine WC.loop4 (fun (i : Nat) (la : Option Addr) (lc : Nat) (ys : List Col) => [(2, .slice a1 m1 c1), (3, .slice a2 m2 c2), (9, .slice la ys.length lc), (10, .slice za zs.length zc), (11, .int .i64 (i : Int))])
        (fun i la lc ys w' => (i ≤ zs.length ∧ ys.map Col.l = ((rowsQ q parts).take i).filter (fun r => decide (fitsL r cols key)) ∧ ys.Sublist (zs.take i)) ∧ Sat w (fun _ => False) (fun b => b < w.heap.size) w (row 32 1 la ys.length lc (ys.map encC) :: lstA za zc zs) w')
        (fun i _ _ _ => zs.length - i) 0 none 0 [] ⟨rfl, rfl, rfl, rfl, rfl, trivial⟩ (fun w' hw => ⟨⟨by omega, by simp, by simp⟩, hw⟩) ?_
    intro i la lc ys
    refine WC.pure (fun hi => ?_)
    obtain ⟨hi, heq, hyz⟩ := hi
    have hyl0 : ys.length ≤ zs.length := by
      have h1 := congrArg List.length heq
      rw [List.length_map] at h1
      have h2 := List.length_filter_le (fun r : List Int => decide (fitsL r cols key)) ((rowsQ q parts).take i)
      rw [List.length_take] at h2
      omega
    refine WC.seq ?_
    refine WC.seq ?_
    refine WC.region ?_
    refine WL.val (OV.move rfl) rfl ?_
    refine WL.val (OV.move rfl) rfl ?_
    first
    | (refine WL.val (OV.lenSlice rfl T.u48) rfl ?_)
    | (refine WL.val (OV.lenStr rfl T.u48) rfl ?_)
    refine WL.val (OV.lss rfl rfl) rfl ?_
    refine WL.nil ?_
    refine WX.next ?_
    refine WC.cond rfl (fun c23 => ?_) (fun c23 => ?_)
    · try simp only [decide_eq_true_eq, decide_eq_false_iff_not, Bool.not_eq_true', Bool.not_eq_false'] at c23
      refine WC.skip ?_
      refine WX.next ?_
      refine WC.seq ?_
      refine WC.block ?_
      refine WC.seq ?_
      refine WC.region ?_
      refine WL.val (OV.move rfl) rfl ?_
      refine WL.val (OV.move rfl) rfl ?_
      obtain ⟨y2, hy, hym, hyl⟩ := col_at hzs (k := i) (by omega)
      obtain ⟨b1, hb1⟩ := hza (by omega)
      have hyrl := ok.rl y2.l (rowsQ_mem ok (List.mem_of_getElem? hyl))
      have hfs := filt_snoc (f := fun r : List Int => decide (fitsL r cols key)) hyl
      refine WL.val (OV.indexSliceA (a := ⟨b1, 0, none⟩) (i := i) (show _ = some (Value.slice (some ⟨b1, 0, none⟩) zs.length zc) by rw [← hb1]; rfl) rfl T.u48 T.z32 (by omega)) rfl ?_
      refine WL.val (OV.load1 (v := encC y2) rfl T.u32 rfl (fun _ hw => row_cellsE hw hb1 (.tail _ (.head _)) i _ (by rw [List.getElem?_map, hy]; rfl))) rfl ?_
      refine WL.val (OV.move rfl) rfl ?_
      refine WL.val (OV.move rfl) rfl ?_
      refine WL.call0 (v := .bool (decide (fitsL y2.l cols key))) (vs := [encC y2, .slice a1 m1 c1, .slice a2 m2 c2]) (by kernel_rfl) rfl rfl (fun w' hw' => refFits_calls y2.l cols key y2.a a1 a2 y2.l.length y2.c m1 c1 m2 c2 hyrl hm1 hm2 w' (by have := hr1.1; have := hr2.1; omega) (RI.of_row (c := y2.c) hw' (.tail _ (.tail _ (List.mem_flatMap.2 ⟨y2, hym, .head _⟩)))) (hr1.keeps hw'.keeps) (hr2.keeps hw'.keeps)) ?_
      refine WL.nil ?_
      refine WX.next ?_
      refine WC.cond rfl (fun c32 => ?_) (fun c32 => ?_)
      · try simp only [decide_eq_true_eq, decide_eq_false_iff_not, Bool.not_eq_true', Bool.not_eq_false'] at c32
        refine WC.region ?_
        refine WL.val (OV.move rfl) rfl ?_
        refine WL.val (OV.move rfl) rfl ?_
        refine WL.val (OV.move rfl) rfl ?_
        refine WL.val (OV.indexSliceA (a := ⟨b1, 0, none⟩) (i := i) (show _ = some (Value.slice (some ⟨b1, 0, none⟩) zs.length zc) by rw [← hb1]; rfl) rfl T.u48 T.z32 (by omega)) rfl ?_
        refine WL.val (OV.load1 (v := encC y2) rfl T.u32 rfl (fun _ hw => row_cellsE hw hb1 (.tail _ (.head _)) i _ (by rw [List.getElem?_map, hy]; rfl))) rfl ?_
        refine WL.buildSlice1 (v := encC y2) T.u48 T.z32 T.zr32 rfl rfl rfl ?_
        intro b38
        refine WL.focus perm1 (WL.append (news := [encC y2]) rfl rfl T.apR (fun _ _ => own_src (.tail _ (.head _)) rfl) (encC_one [y2]) ⟨by omega, by unfold maxLen; omega⟩ rfl ?_)
        intro a39 c39
        refine WL.val (OV.assign rfl) rfl ?_
        refine WL.nil ?_
        refine WX.block_normal ?_
        refine WX.next ?_
        refine WC.region ?_
        refine WL.val (OV.move rfl) rfl ?_
        first
        | (refine WL.val (OV.addI rfl rfl (by omega)) rfl ?_)
        | (refine WL.val (OV.add rfl rfl) rfl ?_)
        refine WL.val (OV.assign rfl) rfl ?_
        refine WL.nil ?_
        rw [if_pos (by simpa using c32)] at hfs
        have el : ys.length + 1 = (ys ++ [y2]).length := by simp
        have em : ys.map encC ++ [encC y2] = (ys ++ [y2]).map encC := by simp
        exact WX.round4 (i + 1) a39 c39 (ys ++ [y2]) ⟨rfl, rfl, by rw [← el]; rfl, rfl, rfl, trivial⟩ (fun w' hw => ⟨⟨by omega, by rw [hfs, List.map_append, heq, List.map_singleton], by rw [List.take_add_one, hy]; exact hyz.append (List.Sublist.refl [y2])⟩, by
          rw [← el, ← em]
          exact (hw.perm perm1).drop⟩) (by show zs.length - (i + 1) < zs.length - i; omega)
      · try simp only [decide_eq_true_eq, decide_eq_false_iff_not, Bool.not_eq_true', Bool.not_eq_false'] at c32
        refine WC.skip ?_
        refine WX.block_normal ?_
        refine WX.next ?_
        refine WC.region ?_
        refine WL.val (OV.move rfl) rfl ?_
        first
        | (refine WL.val (OV.addI rfl rfl (by omega)) rfl ?_)
        | (refine WL.val (OV.add rfl rfl) rfl ?_)
        refine WL.val (OV.assign rfl) rfl ?_
        refine WL.nil ?_
        rw [if_neg (by simpa using c32), List.append_nil] at hfs
        exact WX.round4 (i + 1) la lc ys ⟨rfl, rfl, rfl, rfl, rfl, trivial⟩ (fun w' hw => ⟨⟨by omega, by rw [hfs]; exact heq, by rw [List.take_add_one]; exact hyz.trans (List.sublist_append_left _ _)⟩, hw⟩) (by show zs.length - (i + 1) < zs.length - i; omega)
    · try simp only [decide_eq_true_eq, decide_eq_false_iff_not, Bool.not_eq_true', Bool.not_eq_false'] at c23
      refine WC.exit ?_
      refine WX.then_exit ?_
      refine WX.then_exit ?_
      refine WX.block_hit ?_
      refine WX.next ?_
      refine WC.seq ?_
      refine WC.region ?_
      refine WL.val (OV.move rfl) rfl ?_
      refine WL.val (OV.assign rfl) rfl ?_
      refine WL.nil ?_
      refine WX.next ?_
      refine WC.ret ?_
      rw [List.take_of_length_le (by rw [← hzs, List.length_map]; omega)] at heq
      rw [List.take_of_length_le (by omega)] at hyz
      exact WX.ret1 rfl rfl rfl (fun w' hw => ⟨la, lc, ys, rfl, heq, (Hw.Sat.part (List.Sublist.cons_cons _ (List.Sublist.cons _ (sub_flat colA hyz))) hw).turned0⟩)

end Go.Proofs.YtijplknkpkmblaaGreatDoor
