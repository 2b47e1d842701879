/- Contracts of functions of the program: what each returns and leaves in memory. Printed by gen.py and walk.py. -/
import Derived.Test.YtijplknkpkmblaaGreatDoorM0
namespace Go.Proofs.YtijplknkpkmblaaGreatDoor
open Go Go.Hw
set_option linter.unusedSimpArgs false
set_option linter.unusedVariables false
/-! ### head -/
theorem RI.of_own {w0 ws w : World} {M I : Nat → Prop} {ow : List Hw.Item} {b : Nat} {T : TypeId} {l : List Int} {m : Nat} (hm : l.length = m) (hw : Sat w0 M I ws ow w) (h : own b (.cells (ints l).toArray T (0, 0)) ∈ ow) : RI w (Option.some ⟨b, 0, none⟩) m l :=
  ⟨hm, fun h => (by cases h), fun q hq j n hj => by
    simp only [Option.some.injEq] at hq
    subst hq
    rw [add_off, Nat.zero_add]
    exact own_cells hw h j _ (ints_get hj)⟩
theorem ns_rp {g : RelG} (ok : RelOK g) : g.ns.length = ((rp g).filter fun p => p.2 = 4).length := by
  rw [ok.ns, List.length_map, rp, List.filter_map, List.length_map]
  rfl
theorem partOf_rp (g : RelG) (l : List Int) : partOf g.es l = (((rp g).find? fun p => p.1 = l).map (·.2)).getD 0 := by
  unfold partOf rp
  induction g.es with
  | nil => rfl
  | cons e es ih =>
    rw [List.map_cons]
    by_cases h : e.row = l
    · rw [List.find?_cons_of_pos (by simp [h]), List.find?_cons_of_pos (by simp [h])]; rfl
    · rw [List.find?_cons_of_neg (by simp [h]), List.find?_cons_of_neg (by simp [h])]; exact ih
theorem lit_i64s {l : List Int} (h : (l.all fun n => decide (-9223372036854775808 ≤ n ∧ n ≤ 9223372036854775807)) = true) : i64s l := fun n hn => by simpa using List.all_eq_true.1 h n hn
theorem head_sel : selR [([3, 1], 2), ([1, 2], 2)] 7 [] [] = [[1, 2], [3, 1]] := by
  refine (sortR_eq ?_ ?_).symm
  · exact (List.Perm.swap _ _ _).trans (List.Perm.of_eq (by decide))
  · decide
theorem sel_lens {g : RelG} (ok : RelOK g) {parts : Int} {cols key : List Int} : ∀ l ∈ selR (rp g) parts cols key, l.length = g.width ∧ i64s l := fun l hl => by
  have h1 := (sortR_perm _).mem_iff.1 hl
  obtain ⟨p, hp, rfl⟩ := List.mem_map.1 h1
  obtain ⟨e, he, rfl⟩ := List.mem_map.1 (List.mem_filter.1 hp).1
  exact ⟨ok.wid e he, ok.i64 e he⟩

set_option maxRecDepth 10000 in
theorem head_calls (w : World) : Calls Tryz.prog 8 #[] w fun e w' => e = .returned (.bool true) ∧ Fr0 w w' := by
  refine enterS (args := []) (fun _ => False) Tryz.func8 rfl Tryz.ntmps8 rfl rfl ?_
  refine WC.seq ?_
  refine WC.region ?_
  refine WL.val (OV.assign rfl) rfl ?_
  refine WL.nil ?_
  refine WX.next ?_
  refine WC.seq ?_
  refine WC.region ?_
  refine WL.callTA (ι := Nat × Nat × Nat) (vv := fun q => .tuple #[ptr q.1, .int .i64 0]) (pp := fun _ => True) [] (AA := fun q => relA (RelG.empty q.1 q.2.1 q.2.2 2)) rfl (by kernel_rfl) rfl rfl (fun w' hw' hH => (new_calls 2 w').mono (fun en w'' ⟨r, mb, ib, h1, h2⟩ => ⟨(r, mb, ib), h1, trivial, h2⟩)) ?_
  rintro ⟨r, mb, ib⟩ _
  refine WL.weak (S' := Sat w (fun _ => False) (fun b => b < w.heap.size) w (relA (RelG.empty r mb ib 2))) (fun w' hw' => by rw [List.append_nil] at hw'; exact hw') ?_
  have ok0 : RelOK (RelG.empty r mb ib 2) := RelOK.empty (by decide)
  refine WL.val (OV.move rfl) rfl ?_
  refine WL.val (OV.extract rfl rfl) rfl ?_
  refine WL.val (OV.extract rfl rfl) rfl ?_
  refine WL.val (OV.assign rfl) rfl ?_
  refine WL.val (OV.assign rfl) rfl ?_
  refine WL.nil ?_
  refine WX.next ?_
  refine WC.seq ?_
  refine WC.seq ?_
  refine WC.region ?_
  refine WL.val (OV.move rfl) rfl ?_
  refine WL.val (OV.eqlPN T.u25 rfl rfl) rfl ?_
  refine WL.val (OV.move rfl) rfl ?_
  refine WL.known (t := 13) (b := false) rfl (by rfl) ?_
  refine WL.go (b := false) rfl rfl rfl ?_
  refine WL.val (OV.move rfl) rfl ?_
  refine WL.go (b := false) rfl rfl rfl ?_
  refine WL.val (OV.neq rfl rfl) rfl ?_
  refine WL.val (OV.pickF rfl rfl) rfl ?_
  refine WL.val (OV.move rfl) rfl ?_
  refine WL.known (t := 17) (b := false) rfl (by rfl) ?_
  refine WL.go (b := false) rfl rfl rfl ?_
  refine WL.val (OV.move rfl) rfl ?_
  refine WL.go (b := false) rfl rfl rfl ?_
  refine WL.callTA (ι := FB) (vv := fun F => F.fn) (pp := fun F => RelOK (colG (RelG.empty r mb ib 2) F.col)) (relA (RelG.empty r mb ib 2)) (AA := fun F => relA (colG (RelG.empty r mb ib 2) F.col) ++ boxA F) (List.append_nil _).symm (by kernel_rfl) rfl rfl (fun w' hw' hH => (find_calls (RelG.empty r mb ib 2) ok0 7 [] [] none 0 0 none 0 0 i64s_nil i64s_nil (by omega) (by omega) w' (RI.nil _) (RI.nil _) (fun b hb => by cases hb) (fun b hb => by cases hb) hH).mono (fun en w'' ⟨F, h1, h2, h3, h4, h5, h6⟩ => ⟨F, h1, h5, h6⟩)) ?_
  rintro F ok19
  obtain ⟨g19, hg19⟩ : ∃ q, q = colG (RelG.empty r mb ib 2) F.col := ⟨_, rfl⟩
  have ok19 : RelOK g19 := by rw [hg19]; exact ok19
  have hp19 : rp g19 = [] := by rw [hg19]; rfl
  have hw19 : g19.width = 2 := by rw [hg19]; rfl
  have hr19 : g19.r = r := by rw [hg19]; rfl
  refine WL.weak (S' := Sat w (fun _ => False) (fun b => b < w.heap.size) w (relA g19)) (fun w' hw' => by rw [List.append_nil, ← hg19] at hw'; exact Hw.Sat.part (List.sublist_append_left _ _) hw') ?_
  refine WL.go (b := false) rfl rfl rfl ?_
  refine WL.val (OV.eqlFN T.u42 rfl rfl) rfl ?_
  refine WL.val (OV.pickF rfl rfl) rfl ?_
  refine WL.nil ?_
  refine WX.next ?_
  refine WC.condF rfl ?_
  refine WC.skip ?_
  refine WX.next ?_
  refine WC.seq ?_
  refine WC.region ?_
  refine WL.val (OV.move rfl) rfl ?_
  refine WL.buildSliceN (xs := [.const (.int .i64 3), .const (.int .i64 1)]) (vs := ints [3, 1]) rfl T.u32 T.z3 T.zr3 rfl rfl rfl (by decide) rfl ?_
  intro b23
  refine WL.focus (ow' := relA g19 ++ [own b23 (.cells (ints [3, 1]).toArray 3 (0, 0))]) (List.perm_append_comm (l₂ := [_])) (WL.callTA (ι := RelG) (vs := [ptr g19.r, .slice (some ⟨b23, 0, none⟩) 2 2]) (vv := fun _ => .tuple #[.bool true, .int .i64 0]) (pp := fun q => rp q = [([3, 1], 4)] ∧ RelOK q ∧ q.width = 2 ∧ q.r = r) (relA g19) (AA := fun q => relA q) rfl (by kernel_rfl) (by rw [hr19]; rfl) rfl (fun w' hw' hH => (add_calls g19 ok19 [3, 1] (some ⟨b23, 0, none⟩) 2 2 (lit_i64s (by decide)) (by omega) (by rw [es_len hp19]; decide) w' (RI.of_own rfl hw' (List.mem_append_right _ (.head _))) (fun q hq _ => Sat.sepO (i := own b23 (.cells (ints [3, 1]).toArray 3 (0, 0))) hw' (.head _) (by simp only [Option.some.injEq] at hq; subst hq; rfl)) hH).mono (fun en w'' ⟨h1, g', h2, h3, h4, h5⟩ => ⟨g', h1.trans (by rw [hw19, hp19]; rfl), ⟨h2.trans (by rw [hw19, hp19]; decide), h3, h4.width.trans hw19, h4.r.trans hr19⟩, h5⟩)) ?_)
  rintro g24 hpp
  obtain ⟨hp24, ok24, hw24, hr24⟩ : rp g24 = [([3, 1], 4)] ∧ RelOK g24 ∧ g24.width = 2 ∧ g24.r = r := hpp
  refine WL.weak (S' := Sat w (fun _ => False) (fun b => b < w.heap.size) w (relA g24)) (fun w' hw' => Hw.Sat.part (List.sublist_append_left _ _) hw') ?_
  refine WL.nil ?_
  refine WX.next ?_
  refine WC.seq ?_
  refine WC.region ?_
  refine WL.val (OV.move rfl) rfl ?_
  refine WL.buildSliceN (xs := [.const (.int .i64 1), .const (.int .i64 2)]) (vs := ints [1, 2]) rfl T.u32 T.z3 T.zr3 rfl rfl rfl (by decide) rfl ?_
  intro b27
  refine WL.focus (ow' := relA g24 ++ [own b27 (.cells (ints [1, 2]).toArray 3 (0, 0))]) (List.perm_append_comm (l₂ := [_])) (WL.callTA (ι := RelG) (vs := [ptr g24.r, .slice (some ⟨b27, 0, none⟩) 2 2]) (vv := fun _ => .tuple #[.bool true, .int .i64 0]) (pp := fun q => rp q = [([3, 1], 4), ([1, 2], 4)] ∧ RelOK q ∧ q.width = 2 ∧ q.r = r) (relA g24) (AA := fun q => relA q) rfl (by kernel_rfl) (by rw [hr24]; rfl) rfl (fun w' hw' hH => (add_calls g24 ok24 [1, 2] (some ⟨b27, 0, none⟩) 2 2 (lit_i64s (by decide)) (by omega) (by rw [es_len hp24]; decide) w' (RI.of_own rfl hw' (List.mem_append_right _ (.head _))) (fun q hq _ => Sat.sepO (i := own b27 (.cells (ints [1, 2]).toArray 3 (0, 0))) hw' (.head _) (by simp only [Option.some.injEq] at hq; subst hq; rfl)) hH).mono (fun en w'' ⟨h1, g', h2, h3, h4, h5⟩ => ⟨g', h1.trans (by rw [hw24, hp24]; rfl), ⟨h2.trans (by rw [hw24, hp24]; decide), h3, h4.width.trans hw24, h4.r.trans hr24⟩, h5⟩)) ?_)
  rintro g28 hpp
  obtain ⟨hp28, ok28, hw28, hr28⟩ : rp g28 = [([3, 1], 4), ([1, 2], 4)] ∧ RelOK g28 ∧ g28.width = 2 ∧ g28.r = r := hpp
  refine WL.weak (S' := Sat w (fun _ => False) (fun b => b < w.heap.size) w (relA g28)) (fun w' hw' => Hw.Sat.part (List.sublist_append_left _ _) hw') ?_
  refine WL.val (OV.move rfl) rfl ?_
  refine WL.val (OV.extract rfl rfl) rfl ?_
  refine WL.val (OV.extract rfl rfl) rfl ?_
  refine WL.val (OV.assign rfl) rfl ?_
  refine WL.val (OV.assign rfl) rfl ?_
  refine WL.nil ?_
  refine WX.next ?_
  refine WC.seq ?_
  refine WC.region ?_
  refine WL.val (OV.move rfl) rfl ?_
  refine WL.buildSliceN (xs := [.const (.int .i64 1)]) (vs := ints [1]) rfl T.u32 T.z3 T.zr3 rfl rfl rfl (by decide) rfl ?_
  intro b33
  refine WL.focus (ow' := relA g28 ++ [own b33 (.cells (ints [1]).toArray 3 (0, 0))]) (List.perm_append_comm (l₂ := [_])) (WL.callTA (ι := RelG) (vs := [ptr g28.r, .slice (some ⟨b33, 0, none⟩) 1 1]) (vv := fun _ => .tuple #[.bool false, .int .i64 71]) (pp := fun q => rp q = [([3, 1], 4), ([1, 2], 4)] ∧ RelOK q ∧ q.width = 2 ∧ q.r = r) (relA g28) (AA := fun q => relA q) rfl (by kernel_rfl) (by rw [hr28]; rfl) rfl (fun w' hw' hH => (add_calls g28 ok28 [1] (some ⟨b33, 0, none⟩) 1 1 (lit_i64s (by decide)) (by omega) (by rw [es_len hp28]; decide) w' (RI.of_own rfl hw' (List.mem_append_right _ (.head _))) (fun q hq _ => Sat.sepO (i := own b33 (.cells (ints [1]).toArray 3 (0, 0))) hw' (.head _) (by simp only [Option.some.injEq] at hq; subst hq; rfl)) hH).mono (fun en w'' ⟨h1, g', h2, h3, h4, h5⟩ => ⟨g', h1.trans (by rw [hw28, hp28]; rfl), ⟨h2.trans (by rw [hw28, hp28]; decide), h3, h4.width.trans hw28, h4.r.trans hr28⟩, h5⟩)) ?_)
  rintro g34 hpp
  obtain ⟨hp34, ok34, hw34, hr34⟩ : rp g34 = [([3, 1], 4), ([1, 2], 4)] ∧ RelOK g34 ∧ g34.width = 2 ∧ g34.r = r := hpp
  refine WL.weak (S' := Sat w (fun _ => False) (fun b => b < w.heap.size) w (relA g34)) (fun w' hw' => Hw.Sat.part (List.sublist_append_left _ _) hw') ?_
  refine WL.val (OV.move rfl) rfl ?_
  refine WL.val (OV.extract rfl rfl) rfl ?_
  refine WL.val (OV.extract rfl rfl) rfl ?_
  refine WL.val (OV.assign rfl) rfl ?_
  refine WL.val (OV.assign rfl) rfl ?_
  refine WL.nil ?_
  refine WX.next ?_
  refine WC.seq ?_
  refine WC.seq ?_
  refine WC.region ?_
  refine WL.val (OV.move rfl) rfl ?_
  refine WL.val (OV.not rfl) rfl ?_
  refine WL.val (OV.move rfl) rfl ?_
  refine WL.known (t := 39) (b := false) rfl (by rfl) ?_
  refine WL.go (b := false) rfl rfl rfl ?_
  refine WL.val (OV.move rfl) rfl ?_
  refine WL.go (b := false) rfl rfl rfl ?_
  refine WL.val (OV.neq rfl rfl) rfl ?_
  refine WL.val (OV.pickF rfl rfl) rfl ?_
  refine WL.val (OV.move rfl) rfl ?_
  refine WL.known (t := 43) (b := false) rfl (by rfl) ?_
  refine WL.go (b := false) rfl rfl rfl ?_
  refine WL.val (OV.move rfl) rfl ?_
  refine WL.val (OV.pickF rfl rfl) rfl ?_
  refine WL.val (OV.move rfl) rfl ?_
  refine WL.known (t := 46) (b := false) rfl (by rfl) ?_
  refine WL.go (b := false) rfl rfl rfl ?_
  refine WL.val (OV.move rfl) rfl ?_
  refine WL.go (b := false) rfl rfl rfl ?_
  refine WL.val (OV.neq rfl rfl) rfl ?_
  refine WL.val (OV.pickF rfl rfl) rfl ?_
  refine WL.val (OV.move rfl) rfl ?_
  refine WL.known (t := 50) (b := false) rfl (by rfl) ?_
  refine WL.go (b := false) rfl rfl rfl ?_
  refine WL.val (OV.move rfl) rfl ?_
  refine WL.go (b := false) rfl rfl rfl ?_
  refine WL.callTA (ι := Unit) (vs := [ptr g34.r]) (vv := fun _ => .int .i64 2) (pp := fun _ => True) (relA g34) (AA := fun _ => relA (turnG g34)) (List.append_nil _).symm (by kernel_rfl) (by rw [hr34]; rfl) rfl (fun w' hw' hH => (turn_calls g34 ok34 w' hH).mono (fun en w'' ⟨h1, h2⟩ => ⟨(), h1.trans (by rw [ns_rp ok34, hp34]; rfl), trivial, h2⟩)) ?_
  rintro _ _
  obtain ⟨g52, hg52⟩ : ∃ q, q = turnG g34 := ⟨_, rfl⟩
  have ok52 : RelOK g52 := by rw [hg52]; exact turnG_ok ok34
  have hp52 : rp g52 = [([3, 1], 2), ([1, 2], 2)] := by rw [hg52, rp_turn, hp34]; rfl
  have hw52 : g52.width = 2 := by rw [hg52]; exact hw34
  have hr52 : g52.r = r := by rw [hg52]; exact hr34
  rw [← hg52, List.append_nil]
  refine WL.go (b := false) rfl rfl rfl ?_
  refine WL.val (OV.neq rfl rfl) rfl ?_
  refine WL.val (OV.pickF rfl rfl) rfl ?_
  refine WL.val (OV.move rfl) rfl ?_
  refine WL.known (t := 55) (b := false) rfl (by rfl) ?_
  refine WL.go (b := false) rfl rfl rfl ?_
  refine WL.val (OV.move rfl) rfl ?_
  refine WL.go (b := false) rfl rfl rfl ?_
  refine WL.buildSliceN (xs := [.const (.int .i64 3), .const (.int .i64 1)]) (vs := ints [3, 1]) rfl T.u32 T.z3 T.zr3 rfl rfl rfl (by decide) rfl ?_
  intro b57
  refine WL.go (b := false) rfl rfl rfl ?_
  refine WL.focus (ow' := relA g52 ++ [own b57 (.cells (ints [3, 1]).toArray 3 (0, 0))]) (List.perm_append_comm (l₂ := [_])) (WL.call0 (v := .int .i64 2) (vs := [ptr g52.r, .slice (some ⟨b57, 0, none⟩) 2 2]) (by kernel_rfl) (by rw [hr52]; rfl) rfl (fun w' hw' => (part_calls g52 ok52 [3, 1] (some ⟨b57, 0, none⟩) 2 2 (lit_i64s (by decide)) (by omega) w' (RI.of_own rfl hw' (List.mem_append_right _ (.head _))) hw'.holds).mono (fun en w'' ⟨h1, h2⟩ => ⟨h1.trans (by rw [partOf_rp, hp52]; rfl), h2⟩)) ?_)
  refine WL.weak (S' := Sat w (fun _ => False) (fun b => b < w.heap.size) w (relA g52)) (fun w' hw' => Hw.Sat.part (List.sublist_append_left _ _) hw') ?_
  refine WL.go (b := false) rfl rfl rfl ?_
  refine WL.val (OV.neq rfl rfl) rfl ?_
  refine WL.val (OV.pickF rfl rfl) rfl ?_
  refine WL.nil ?_
  refine WX.next ?_
  refine WC.condF rfl ?_
  refine WC.skip ?_
  refine WX.next ?_
  refine WC.seq ?_
  refine WC.region ?_
  refine WL.val (OV.move rfl) rfl ?_
  refine WL.callTA (ι := RelG × Option Addr × Nat × List Col) (vs := [ptr g52.r, .int .i64 7]) (vv := fun q => .slice q.2.1 q.2.2.2.length q.2.2.1) (pp := fun q => q.2.2.2.map Col.l = [[1, 2], [3, 1]]) (relA g52) (AA := fun q => relA q.1 ++ lstA q.2.1 q.2.2.1 q.2.2.2) (List.append_nil _).symm (by kernel_rfl) (by rw [hr52]; rfl) rfl (fun w' hw' hH => (rows_calls g52 ok52 7 w' hH).mono (fun en w'' ⟨g', la, lc, ys, h1, h2, _, _, _, h3⟩ => ⟨(g', la, lc, ys), h1, h2.trans (by rw [hp52]; exact head_sel), h3⟩)) ?_
  rintro ⟨g62, la, lc, ys⟩ hys
  obtain ⟨y0, ys1, rfl, hy0, hys1⟩ := List.map_eq_cons_iff.1 (show ys.map Col.l = [[1, 2], [3, 1]] from hys)
  obtain ⟨y1, ys2, rfl, hy1, hys2⟩ := List.map_eq_cons_iff.1 hys1
  obtain rfl := List.map_eq_nil_iff.1 hys2
  obtain ⟨ya, yc, yl⟩ := y0
  obtain rfl : yl = [1, 2] := hy0
  obtain ⟨za, zc, zl⟩ := y1
  obtain rfl : zl = [3, 1] := hy1
  refine WL.weak (S' := fun w' => ((∃ q, la = some ⟨q, 0, none⟩) ∧ (∃ q, ya = some ⟨q, 0, none⟩) ∧ (∃ q, za = some ⟨q, 0, none⟩)) ∧ Sat w (fun _ => False) (fun b => b < w.heap.size) w [row 32 1 la 2 lc [.slice ya 2 yc, .slice za 2 zc], row 3 1 ya 2 yc (ints [1, 2]), row 3 1 za 2 zc (ints [3, 1])] w') (fun w' hw' => ?_) ?_
  · rw [List.append_nil] at hw'
    have h1 := Hw.Sat.part (List.sublist_append_right _ _) hw'
    exact ⟨⟨row_addr (h1.it _ (.head _)) (Nat.zero_lt_succ 1), row_addr (h1.it _ (.tail _ (.head _))) (Nat.zero_lt_succ 1), row_addr (h1.it _ (.tail _ (.tail _ (.head _)))) (Nat.zero_lt_succ 1)⟩, h1⟩
  refine WL.pure (fun hnn => ?_)
  obtain ⟨⟨qa, rfl⟩, ⟨qb, rfl⟩, ⟨qc, rfl⟩⟩ := hnn
  refine WL.val (OV.assign rfl) rfl ?_
  refine WL.nil ?_
  refine WX.next ?_
  refine WC.seq ?_
  refine WC.region ?_
  refine WL.val (OV.move rfl) rfl ?_
  first
  | (refine WL.val (OV.lenSlice rfl T.u48) rfl ?_)
  | (refine WL.val (OV.lenStr rfl T.u48) rfl ?_)
  refine WL.val (OV.eql rfl rfl) rfl ?_
  refine WL.val (OV.move rfl) rfl ?_
  refine WL.known (t := 66) (b := true) rfl (by rfl) ?_
  refine WL.go (b := true) rfl rfl rfl ?_
  refine WL.val (OV.move rfl) rfl ?_
  refine WL.go (b := true) rfl rfl rfl ?_
  refine WL.val (OV.indexSliceA (i := 0) rfl rfl T.u48 T.z32 Nat.two_pos) rfl ?_
  refine WL.go (b := true) rfl rfl rfl ?_
  refine WL.val (OV.load1 (v := .slice (some ⟨qb, 0, none⟩) 2 yc) rfl T.u32 rfl (fun _ hw => row_cells hw (.head _) 0 _ rfl)) rfl ?_
  refine WL.go (b := true) rfl rfl rfl ?_
  first
  | (refine WL.val (OV.lenSlice rfl T.u32) rfl ?_)
  | (refine WL.val (OV.lenStr rfl T.u32) rfl ?_)
  refine WL.go (b := true) rfl rfl rfl ?_
  refine WL.val (OV.eql rfl rfl) rfl ?_
  refine WL.val (OV.pickT rfl rfl) rfl ?_
  refine WL.val (OV.move rfl) rfl ?_
  refine WL.known (t := 73) (b := true) rfl (by rfl) ?_
  refine WL.go (b := true) rfl rfl rfl ?_
  refine WL.val (OV.move rfl) rfl ?_
  refine WL.go (b := true) rfl rfl rfl ?_
  refine WL.val (OV.indexSliceA (i := 0) rfl rfl T.u48 T.z32 Nat.two_pos) rfl ?_
  refine WL.go (b := true) rfl rfl rfl ?_
  refine WL.val (OV.load1 (v := .slice (some ⟨qb, 0, none⟩) 2 yc) rfl T.u32 rfl (fun _ hw => row_cells hw (.head _) 0 _ rfl)) rfl ?_
  refine WL.go (b := true) rfl rfl rfl ?_
  refine WL.val (OV.indexSliceA (i := 0) rfl rfl T.u32 T.z3 Nat.two_pos) rfl ?_
  refine WL.go (b := true) rfl rfl rfl ?_
  refine WL.val (OV.load1 (v := .int .i64 1) rfl T.u3 rfl (fun _ hw => row_cells hw (.tail _ (.head _)) 0 _ rfl)) rfl ?_
  refine WL.go (b := true) rfl rfl rfl ?_
  refine WL.val (OV.eql rfl rfl) rfl ?_
  refine WL.val (OV.pickT rfl rfl) rfl ?_
  refine WL.val (OV.move rfl) rfl ?_
  refine WL.known (t := 81) (b := true) rfl (by rfl) ?_
  refine WL.go (b := true) rfl rfl rfl ?_
  refine WL.val (OV.move rfl) rfl ?_
  refine WL.go (b := true) rfl rfl rfl ?_
  refine WL.val (OV.indexSliceA (i := 1) rfl rfl T.u48 T.z32 Nat.one_lt_two) rfl ?_
  refine WL.go (b := true) rfl rfl rfl ?_
  refine WL.val (OV.load1 (v := .slice (some ⟨qc, 0, none⟩) 2 zc) rfl T.u32 rfl (fun _ hw => row_cells hw (.head _) 1 _ rfl)) rfl ?_
  refine WL.go (b := true) rfl rfl rfl ?_
  refine WL.val (OV.indexSliceA (i := 0) rfl rfl T.u32 T.z3 Nat.two_pos) rfl ?_
  refine WL.go (b := true) rfl rfl rfl ?_
  refine WL.val (OV.load1 (v := .int .i64 3) rfl T.u3 rfl (fun _ hw => row_cells hw (.tail _ (.tail _ (.head _))) 0 _ rfl)) rfl ?_
  refine WL.go (b := true) rfl rfl rfl ?_
  refine WL.val (OV.eql rfl rfl) rfl ?_
  refine WL.val (OV.pickT rfl rfl) rfl ?_
  refine WL.val (OV.assign rfl) rfl ?_
  refine WL.nil ?_
  refine WX.next ?_
  refine WC.ret ?_
  exact WX.ret1 rfl rfl rfl (fun w' hw => ⟨rfl, hw.fr⟩)

end Go.Proofs.YtijplknkpkmblaaGreatDoor
