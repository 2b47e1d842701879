/- Contracts of functions of the program: what each returns and leaves in memory. Printed by gen.py and walk.py. -/
import Derived.Test.YtijplknkpkmblaaGreatDoorZ5
namespace Go.Proofs.YtijplknkpkmblaaGreatDoor
open Go Go.Hw
set_option linter.unusedSimpArgs false
set_option linter.unusedVariables false
theorem rowsQ_all {q : RefG} {parts : Int} {l : List Int} (h : l ∈ rowsQ q parts) : l ∈ refR q := by
  obtain ⟨p, hp, rfl⟩ := List.mem_map.1 h
  exact (List.of_mem_zip (a := p.1) (b := p.2) (List.mem_filter.1 hp).1).1
theorem RLi.of_rowsQ {w0 ws w : World} {M I : Nat → Prop} {ow : List Hw.Item} {a : Option Addr} {c : Nat} {ys : List Col} {q : RefG} {parts : Int} (ok : RefOK q) (hw : Sat w0 M I ws ow w) (hm : ∀ i ∈ lstA a c ys, i ∈ ow) (hy : ys.map Col.l = rowsQ q parts) : RLi w a ys.length (ys.map Col.l) :=
  RLi.of_lst (c := c) hw hm (by have h1 := rowsQ_len ok parts; have := ok.cl; rw [← hy, List.length_map] at h1; omega) (fun l hl => ok.rl l (rowsQ_all (hy ▸ hl))) (fun l hl => ok.i64 l (rowsQ_all (hy ▸ hl)))

set_option maxRecDepth 10000 in
theorem looks_calls (g : RelG) (q : RefG) (t : Tie g q) (w : World) (hA : Holds (relA g ++ refA q) w) : Calls Tryz.prog 10 #[.agg #[ptr g.r, ptr q.p]] w fun e w' => e = .returned (.bool true) ∧ ∃ g', Tie g' q ∧ RelLe g g' ∧ g'.es = g.es ∧ Turns (relA g ++ refA q) (relA g' ++ refA q) w w' := by
  refine enterA hA (args := [.agg #[ptr g.r, ptr q.p]]) Tryz.func10 rfl Tryz.ntmps10 rfl rfl ?_
  refine WC.seq ?_
  refine WC.region ?_
  refine WL.box rfl rfl rfl ?_
  intro b1
  refine WL.val (OV.assign rfl) rfl ?_
  refine WL.nil ?_
  refine WX.next ?_
  refine WC.seq ?_
  refine WC.seq ?_
  refine WC.region ?_
  refine WL.val (OV.assign rfl) rfl ?_
  refine WL.nil ?_
  refine WX.next ?_
  refine WC.block ?_
  refine WC.loop2 (fun (i : Nat) (_ : RelG) => [(1, .pointer (some ⟨b1, 0, none⟩)), (3, .int .i64 (i : Int))])
      (fun i g1 w' => (i ≤ 8 ∧ Tie g1 q ∧ RelLe g g1 ∧ g1.es = g.es) ∧ Sat w (DD (relA g ++ refA q)) (fun b => b < w.heap.size ∧ ¬ DD (relA g ++ refA q) b) w (own b1 (.cells [ptr g.r, ptr q.p].toArray 28 (0, 0)) :: (relA g1 ++ refA q)) w')
      (fun i _ => 8 - i) 0 g ⟨rfl, rfl, trivial⟩ (fun w' hw => ⟨⟨by omega, t, RelLe.refl g, rfl⟩, hw⟩) ?_
  intro i g1
  refine WC.pure (fun hi => ?_)
  obtain ⟨hi, t1, hle, hes⟩ := hi
  refine WC.seq ?_
  refine WC.seq ?_
  refine WC.region ?_
  refine WL.val (OV.move rfl) rfl ?_
  refine WL.val (OV.lss rfl rfl) rfl ?_
  refine WL.nil ?_
  refine WX.next ?_
  refine WC.cond rfl (fun c5 => ?_) (fun c5 => ?_)
  · try simp only [decide_eq_true_eq, decide_eq_false_iff_not, Bool.not_eq_true', Bool.not_eq_false'] at c5
    refine WC.skip ?_
    refine WX.next ?_
    refine WC.seq ?_
    refine WC.block ?_
    refine WC.seq ?_
    refine WC.drawn (fun w' => w'.heap[b1]? = some (.cells [ptr g.r, ptr q.p].toArray 28 (0, 0))) [] (by kernel_rfl) (by kernel_rfl) (m := 21) rfl ?_
    first
    | (refine WH.free 0 rfl (by kernel_rfl) (by kernel_rfl) (by kernel_rfl) rfl (fun _ => (fun _ hw => hw.it _ (.head _))) (OV.fieldAddr0 (off := 0) rfl T.u28 rfl) rfl (listed' := [true, false, false, false, false, false, false, false, false, false, false, false, false, false, false, false, false, false, false, false, false]) rfl ?_)
    | (refine WH.free 0 rfl (by kernel_rfl) (by kernel_rfl) (by kernel_rfl) rfl (fun _ => (fun _ hw => hw.it _ (.head _))) (OV.fieldAddr (off := 0) rfl T.u28 rfl) rfl (listed' := [true, false, false, false, false, false, false, false, false, false, false, false, false, false, false, false, false, false, false, false, false]) rfl ?_)
    refine WH.take 1 rfl (by kernel_rfl) (by kernel_rfl) (by kernel_rfl) (by kernel_rfl) (fun _ hw => hw.it _ (.head _)) (OV.load1 (v := ptr g.r) rfl T.u25 rfl (fun _ hw => (cell_at hw (o := 0) rfl).1)) rfl (listed' := [true, true, false, false, false, false, false, false, false, false, false, false, false, false, false, false, false, false, false, false, false]) rfl ?_
    refine WH.free 2 rfl (by kernel_rfl) (by kernel_rfl) (by kernel_rfl) rfl (fun _ => (fun _ hw => hw.it _ (.head _))) (OV.move rfl) rfl (listed' := [true, true, true, false, false, false, false, false, false, false, false, false, false, false, false, false, false, false, false, false, false]) rfl ?_
    first
    | (refine WH.free 4 rfl (by kernel_rfl) (by kernel_rfl) (by kernel_rfl) rfl (fun _ => (fun _ hw => hw.it _ (.head _))) (OV.fieldAddr0 (off := 1) rfl T.u28 rfl) rfl (listed' := [true, true, true, false, true, false, false, false, false, false, false, false, false, false, false, false, false, false, false, false, false]) rfl ?_)
    | (refine WH.free 4 rfl (by kernel_rfl) (by kernel_rfl) (by kernel_rfl) rfl (fun _ => (fun _ hw => hw.it _ (.head _))) (OV.fieldAddr (off := 1) rfl T.u28 rfl) rfl (listed' := [true, true, true, false, true, false, false, false, false, false, false, false, false, false, false, false, false, false, false, false, false]) rfl ?_)
    refine WH.take 5 rfl (by kernel_rfl) (by kernel_rfl) (by kernel_rfl) (by kernel_rfl) (fun _ hw => hw.it _ (.head _)) (OV.load1 (v := ptr q.p) rfl T.u26 rfl (fun _ hw => (cell_at hw (o := 1) rfl).1)) rfl (listed' := [true, true, true, false, true, true, false, false, false, false, false, false, false, false, false, false, false, false, false, false, false]) rfl ?_
    refine WH.free 6 rfl (by kernel_rfl) (by kernel_rfl) (by kernel_rfl) rfl (fun _ => (fun _ hw => hw.it _ (.head _))) (OV.move rfl) rfl (listed' := [true, true, true, false, true, true, true, false, false, false, false, false, false, false, false, false, false, false, false, false, false]) rfl ?_
    refine WH.only 3 rfl (by kernel_rfl) (listed' := [true, true, true, true, true, true, true, false, false, false, false, false, false, false, false, false, false, false, false, false, false]) rfl (fl' := false) rfl ?_
    refine WL.call0 (vs := [ptr g1.r, .int .i64 (i : Int)]) (v := .int .i64 (lenOf g1.es (i : Int) : Int)) (by kernel_rfl) (by rw [hle.r]; rfl) rfl (fun w' hw' => len_calls g1 t1.ok (i : Int) w' (Hw.Sat.holds (A := relA g1) hw'.drop)) ?_
    refine WL.nil ?_
    refine WX.contD (by kernel_rfl) (fun _ => (fun _ hw => hw.it _ (.head _))) ?_
    refine WH.only 7 rfl (by kernel_rfl) (listed' := [true, true, true, true, true, true, true, true, false, false, false, false, false, false, false, false, false, false, false, false, false]) rfl (fl' := false) rfl ?_
    refine WL.call0 (v := .int .i64 ((rowsQ q (i : Int)).length : Int)) (by kernel_rfl) rfl rfl (fun w' hw' => refLen_calls q t1.qok (i : Int) w' (Hw.Sat.part (List.sublist_append_right _ _) hw'.drop).holdsAll) ?_
    refine WL.nil ?_
    refine WX.contD (by kernel_rfl) (fun _ => (fun _ hw => hw.it _ (.head _))) ?_
    refine WH.free 8 rfl (by kernel_rfl) (by kernel_rfl) (by kernel_rfl) rfl (fun _ => (fun _ hw => hw.it _ (.head _))) (OV.neq rfl rfl) rfl (listed' := [true, true, true, true, true, true, true, true, true, false, false, false, false, false, false, false, false, false, false, false, false]) rfl ?_
    refine WH.free 9 rfl (by kernel_rfl) (by kernel_rfl) (by kernel_rfl) rfl (fun _ => (fun _ hw => hw.it _ (.head _))) (OV.move rfl) rfl (listed' := [true, true, true, true, true, true, true, true, true, true, false, false, false, false, false, false, false, false, false, false, false]) rfl ?_
    refine WH.known (t := 17) (b := false) rfl (by rw [t1.len]; simp) ?_
    first
    | (refine WH.freeG 10 (b := false) rfl (by kernel_rfl) (by kernel_rfl) (by kernel_rfl) rfl (fun _ => (fun _ hw => hw.it _ (.head _))) rfl rfl rfl (OV.fieldAddr0 (off := 0) rfl T.u28 rfl) rfl (listed' := [true, true, true, true, true, true, true, true, true, true, true, false, false, false, false, false, false, false, false, false, false]) rfl ?_)
    | (refine WH.freeG 10 (b := false) rfl (by kernel_rfl) (by kernel_rfl) (by kernel_rfl) rfl (fun _ => (fun _ hw => hw.it _ (.head _))) rfl rfl rfl (OV.fieldAddr (off := 0) rfl T.u28 rfl) rfl (listed' := [true, true, true, true, true, true, true, true, true, true, true, false, false, false, false, false, false, false, false, false, false]) rfl ?_)
    refine WH.takeG 11 (b := false) rfl (by kernel_rfl) (by kernel_rfl) (by kernel_rfl) (by kernel_rfl) (fun _ hw => hw.it _ (.head _)) rfl rfl rfl (OV.load1 (v := ptr g.r) rfl T.u25 rfl (fun _ hw => (cell_at hw (o := 0) rfl).1)) rfl (listed' := [true, true, true, true, true, true, true, true, true, true, true, true, false, false, false, false, false, false, false, false, false]) rfl ?_
    refine WH.freeG 12 (b := false) rfl (by kernel_rfl) (by kernel_rfl) (by kernel_rfl) rfl (fun _ => (fun _ hw => hw.it _ (.head _))) rfl rfl rfl (OV.move rfl) rfl (listed' := [true, true, true, true, true, true, true, true, true, true, true, true, true, false, false, false, false, false, false, false, false]) rfl ?_
    first
    | (refine WH.freeG 14 (b := false) rfl (by kernel_rfl) (by kernel_rfl) (by kernel_rfl) rfl (fun _ => (fun _ hw => hw.it _ (.head _))) rfl rfl rfl (OV.fieldAddr0 (off := 1) rfl T.u28 rfl) rfl (listed' := [true, true, true, true, true, true, true, true, true, true, true, true, true, false, true, false, false, false, false, false, false]) rfl ?_)
    | (refine WH.freeG 14 (b := false) rfl (by kernel_rfl) (by kernel_rfl) (by kernel_rfl) rfl (fun _ => (fun _ hw => hw.it _ (.head _))) rfl rfl rfl (OV.fieldAddr (off := 1) rfl T.u28 rfl) rfl (listed' := [true, true, true, true, true, true, true, true, true, true, true, true, true, false, true, false, false, false, false, false, false]) rfl ?_)
    refine WH.takeG 15 (b := false) rfl (by kernel_rfl) (by kernel_rfl) (by kernel_rfl) (by kernel_rfl) (fun _ hw => hw.it _ (.head _)) rfl rfl rfl (OV.load1 (v := ptr q.p) rfl T.u26 rfl (fun _ hw => (cell_at hw (o := 1) rfl).1)) rfl (listed' := [true, true, true, true, true, true, true, true, true, true, true, true, true, false, true, true, false, false, false, false, false]) rfl ?_
    refine WH.freeG 16 (b := false) rfl (by kernel_rfl) (by kernel_rfl) (by kernel_rfl) rfl (fun _ => (fun _ hw => hw.it _ (.head _))) rfl rfl rfl (OV.move rfl) rfl (listed' := [true, true, true, true, true, true, true, true, true, true, true, true, true, false, true, true, true, false, false, false, false]) rfl ?_
    refine WH.only 13 rfl (by kernel_rfl) (listed' := [true, true, true, true, true, true, true, true, true, true, true, true, true, true, true, true, true, false, false, false, false]) rfl (fl' := false) rfl ?_
    refine WL.go (b := false) rfl rfl rfl ?_
    refine WL.focus (ow' := relA g1 ++ (own b1 (.cells [ptr g.r, ptr q.p].toArray 28 (0, 0)) :: refA q)) List.perm_middle (WL.callTA (ι := RelG × Option Addr × Nat × List Col) (vs := [ptr g1.r, .int .i64 (i : Int)]) (vv := fun z => .slice z.2.1 z.2.2.2.length z.2.2.1) (pp := fun z => z.2.2.2.map Col.l = rowsQ q (i : Int) ∧ RelOK z.1 ∧ RelLe g1 z.1 ∧ z.1.es = g1.es) (relA g1) (AA := fun z => relA z.1 ++ lstA z.2.1 z.2.2.1 z.2.2.2) rfl (by kernel_rfl) (by rw [hle.r]; rfl) rfl (fun w' hw' hH => (rows_calls g1 t1.ok (i : Int) w' hH).mono (fun en w'' ⟨g', la, lc, ys, h1, h2, h3, h4, h5, h6⟩ => ⟨(g', la, lc, ys), h1, ⟨h2.trans (t1.rows _).symm, h3, h4, h5⟩, h6⟩)) ?_)
    rintro ⟨g2, la, lc, ys⟩ ⟨hys, ok2, hle2, hes2⟩
    have hys : ys.map Col.l = rowsQ q (i : Int) := hys
    have ok2 : RelOK g2 := ok2
    have hle2 : RelLe g1 g2 := hle2
    have hes2 : g2.es = g1.es := hes2
    refine WL.focus (ow' := own b1 (.cells [ptr g.r, ptr q.p].toArray 28 (0, 0)) :: (relA g2 ++ lstA la lc ys ++ refA q)) (List.perm_middle (l₁ := relA g2 ++ lstA la lc ys)).symm ?_
    refine WL.nil ?_
    refine WX.contD (by kernel_rfl) (fun _ => (fun _ hw => hw.it _ (.head _))) ?_
    refine WH.only 17 rfl (by kernel_rfl) (listed' := [true, true, true, true, true, true, true, true, true, true, true, true, true, true, true, true, true, true, false, false, false]) rfl (fl' := false) rfl ?_
    refine WL.go (b := false) rfl rfl rfl ?_
    refine WL.callTA (ι := Option Addr × Nat × List Col) (vv := fun z => .slice z.1 z.2.2.length z.2.1) (pp := fun z => z.2.2.map Col.l = rowsQ q (i : Int)) [] (AA := fun z => lstA z.1 z.2.1 z.2.2) rfl (by kernel_rfl) rfl rfl (fun w' hw' _ => (refRows_calls q t1.qok (i : Int) w' (Hw.Sat.part (List.sublist_append_right _ _) hw'.drop).holdsAll).mono (fun en w'' ⟨la, lc, ys, h1, h2, h3⟩ => ⟨(la, lc, ys), h1, h2, h3⟩)) ?_
    rintro ⟨ma, mc, zs⟩ hzs
    have hzs : zs.map Col.l = rowsQ q (i : Int) := hzs
    refine WL.focus (ow' := own b1 (.cells [ptr g.r, ptr q.p].toArray 28 (0, 0)) :: (lstA ma mc zs ++ (relA g2 ++ lstA la lc ys ++ refA q))) (List.perm_middle (l₁ := lstA ma mc zs)).symm ?_
    refine WL.nil ?_
    refine WX.contD (by kernel_rfl) (fun _ => (fun _ hw => hw.it _ (.head _))) ?_
    refine WH.only 18 rfl (by kernel_rfl) (listed' := [true, true, true, true, true, true, true, true, true, true, true, true, true, true, true, true, true, true, true, false, false]) rfl (fl' := false) rfl ?_
    refine WL.go (b := false) rfl rfl rfl ?_
    refine WL.call0 (v := .bool true) (by kernel_rfl) rfl rfl (fun w' hw' => (sameRows_calls (ys.map Col.l) (zs.map Col.l) la ma ys.length lc zs.length mc w' (RLi.of_rowsQ (c := lc) t1.qok hw' (fun i hi => .tail _ (List.mem_append_right _ (List.mem_append_left _ (List.mem_append_right _ hi)))) hys) (RLi.of_rowsQ (c := mc) t1.qok hw' (fun i hi => .tail _ (List.mem_append_left _ hi)) hzs)).mono (fun en w'' ⟨h1, h2⟩ => ⟨h1.trans (by rw [hys, hzs, decide_eq_true rfl]), h2⟩)) ?_
    refine WL.nil ?_
    refine WX.contD (by kernel_rfl) (fun _ => (fun _ hw => hw.it _ (.head _))) ?_
    refine WH.freeG 19 (b := false) rfl (by kernel_rfl) (by kernel_rfl) (by kernel_rfl) rfl (fun _ => (fun _ hw => hw.it _ (.head _))) rfl rfl rfl (OV.not rfl) rfl (listed' := [true, true, true, true, true, true, true, true, true, true, true, true, true, true, true, true, true, true, true, true, false]) rfl ?_
    refine WH.free 20 rfl (by kernel_rfl) (by kernel_rfl) (by kernel_rfl) rfl (fun _ => (fun _ hw => hw.it _ (.head _))) (OV.pickF rfl rfl) rfl (listed' := [true, true, true, true, true, true, true, true, true, true, true, true, true, true, true, true, true, true, true, true, true]) rfl ?_
    refine WH.done (by kernel_rfl) ?_
    refine WX.next ?_
    refine WC.condF (show _ = some (Value.bool false) from by rfl) ?_
    refine WC.skip ?_
    refine WX.block_normal ?_
    refine WX.next ?_
    refine WC.region ?_
    refine WL.val (OV.move rfl) rfl ?_
    first
    | (refine WL.val (OV.addI rfl rfl (by omega)) rfl ?_)
    | (refine WL.val (OV.add rfl rfl) rfl ?_)
    refine WL.val (OV.assign rfl) rfl ?_
    refine WL.nil ?_
    exact WX.round2 (i + 1) g2 ⟨rfl, rfl, trivial⟩ (fun w' hw => ⟨⟨by omega, ⟨ok2, t1.qok, by rw [hle2.width, t1.wd], by rw [rp, hes2]; exact t1.same⟩, hle.trans hle2, hes2.trans hes⟩, (by rw [List.append_assoc] at hw; exact hw.pick [[_], lstA ma mc zs, relA g2, lstA la lc ys, refA q] [0, 2, 4] 5 rfl (by decide) (by decide))⟩) (by show 8 - (i + 1) < 8 - i; omega)
  · try simp only [decide_eq_true_eq, decide_eq_false_iff_not, Bool.not_eq_true', Bool.not_eq_false'] at c5
    refine WC.exit ?_
    refine WX.then_exit ?_
    refine WX.then_exit ?_
    refine WX.block_hit ?_
    refine WX.next ?_
    refine WC.seq ?_
    refine WC.region ?_
    refine WL.val (OV.assign rfl) rfl ?_
    refine WL.nil ?_
    refine WX.next ?_
    refine WC.ret ?_
    exact WX.ret1 rfl rfl rfl (fun w' hw => ⟨rfl, g1, t1, hle, hes, hw.drop.turned⟩)

end Go.Proofs.YtijplknkpkmblaaGreatDoor
