/- Contracts of functions of the program: what each returns and leaves in memory. Printed by gen.py and walk.py. -/
import Derived.Test.YtgiiifadbnpfkaaGreatDoorMg18
import Derived.Test.YtgiiifadbnpfkaaGreatDoorRows
namespace Go.Proofs.YtgiiifadbnpfkaaGreatDoor
open Go Go.Hw
set_option linter.unusedSimpArgs false
set_option linter.unusedVariables false
theorem NoneAt.lt {w : World} (h : NoneAt w) : 1 < w.heap.size := World.block_lt_of_cell? w ⟨1, 0, none⟩ (h 0 _ rfl)
theorem fact5 : factB (factP 5) = true := by kernel_rfl
theorem add5a : addF [] (factP 5) = [(factP 5, 4)] := by
  unfold addF; rw [if_pos ⟨fact5, by simp⟩]; rfl
theorem add5b : addF [(factP 5, 4)] (factP 5) = [(factP 5, 4)] := by
  unfold addF; rw [if_neg (by simp)]
theorem sel5 : sortA (selF [(factP 5, 2)] 2) = [factP 5] := by
  have h : selF [(factP 5, 2)] 2 = [factP 5] := by
    unfold selF
    rw [List.filter_cons, if_pos (by rfl)]; rfl
  rw [h]; exact List.mergeSort_singleton _

set_option maxRecDepth 10000 in
theorem first_calls (w : World) (hN : NoneAt w) : Calls Tryz.prog 18 #[] w fun e w' => e = .returned (.bool true) ∧ Fr0 w w' := by
  refine enterS (args := []) (fun _ => False) Tryz.func18 rfl Tryz.ntmps18 rfl rfl ?_
  refine WC.seq ?_
  refine WC.region ?_
  refine WL.val (OV.assign rfl) rfl ?_
  refine WL.nil ?_
  refine WX.next ?_
  refine WC.seq ?_
  refine WC.region ?_
  refine WL.callTA (ι := Nat × Nat) (vs := []) (vv := fun z => ptr z.1) (pp := fun _ => True) [] (AA := fun z => baseA ⟨z.1, none, none, 0, [], z.2, []⟩) rfl (by kernel_rfl) rfl rfl (fun w' hw' _ => (bnew_calls w').mono (fun en w'' ⟨p, rb, h1, h2⟩ => ⟨(p, rb), h1, trivial, h2⟩)) ?_
  rintro ⟨pg0, rbg0⟩ _
  obtain ⟨g0, eg0⟩ : ∃ g : BaseG, g = ⟨pg0, none, none, 0, [], rbg0, []⟩ := ⟨_, rfl⟩
  have bsg0 : BS g0 0 [] := by rw [eg0]; exact new_bs _ _
  have hpg0 : g0.p = pg0 := by rw [eg0]
  rw [show ptr (pg0, rbg0).1 = ptr g0.p from by rw [hpg0]]
  refine WL.focus (ow' := baseA g0) (List.Perm.of_eq (by rw [List.append_nil]; exact congrArg baseA (eg0.trans (rfl)))) ?_
  refine WL.val (OV.assign rfl) rfl ?_
  refine WL.nil ?_
  refine WX.next ?_
  refine WC.seq ?_
  refine WC.seq ?_
  refine WC.region ?_
  refine WL.val (OV.move rfl) rfl ?_
  refine WL.val (OV.eqlPN T.u23 rfl rfl) rfl ?_
  refine WL.nil ?_
  refine WX.next ?_
  refine WC.condF rfl ?_
  refine WC.skip ?_
  refine WX.next ?_
  refine WC.seq ?_
  refine WC.region ?_
  refine WL.val (OV.move rfl) rfl ?_
  refine WL.callTA (ι := Nat) (vs := [.int .i64 5]) (vv := fun b => atV (factP 5) (some ⟨b, 0, none⟩) 1) (pp := fun _ => True) [] (AA := fun b => [own b (.cells (tmC ⟨1, 5, E0⟩).toArray 31 (0, 0))]) rfl (by kernel_rfl) rfl rfl (fun w' hw' _ => (lfact_calls 5 w').mono (fun en w'' ⟨b, h1, h2⟩ => ⟨b, h1, trivial, h2⟩)) ?_
  rintro f1 _
  refine WL.focus (ow' := baseA g0 ++ ([own f1 (.cells (tmC ⟨1, 5, E0⟩).toArray 31 (0, 0))])) (perm_cat [[own f1 (.cells (tmC ⟨1, 5, E0⟩).toArray 31 (0, 0))], baseA g0] [1, 0] (by decide) rfl) ?_
  refine WL.callTA (ι := BaseG) (vs := [ptr g0.p, atV (factP 5) (some ⟨f1, 0, none⟩) 1]) (vv := fun _ => .tuple #[.bool true, .int .i64 0]) (pp := fun g' => BS g' (0 + 1) [(factP 5, 4)] ∧ g'.p = g0.p) (baseA g0) (AA := fun g' => baseA g') rfl (by kernel_rfl) (by rfl) rfl (fun w' hw' hH => (badd_bs g0 0 [] bsg0 (by decide) (factP 5) (some ⟨f1, 0, none⟩) 1 (by decide) (by decide) w' (hN.keeps hw'.keeps) (Sat.sepI hw' hN.lt) (RT.of_own hw' (List.mem_append_right _ (.head _))) (fun q hq _ => by cases hq; exact Sat.sepO hw' (i := own f1 (.cells (tmC ⟨1, 5, E0⟩).toArray 31 (0, 0))) (.head _) rfl) hH).mono (fun en w'' ⟨g', h1, h2, h3⟩ => ⟨g', by rw [h1, fact5]; rfl, by first | rwa [add5a] at h2 | rwa [add5b] at h2, h3⟩)) ?_
  rintro g1 ⟨bsg1, hpg1⟩
  refine WL.val (OV.move rfl) rfl ?_
  refine WL.val (OV.extract rfl rfl) rfl ?_
  refine WL.val (OV.extract rfl rfl) rfl ?_
  refine WL.val (OV.assign rfl) rfl ?_
  refine WL.val (OV.assign rfl) rfl ?_
  refine WL.nil ?_
  refine WX.next ?_
  refine WC.seq ?_
  refine WC.region ?_
  refine WL.val (OV.move rfl) rfl ?_
  refine WL.callTA (ι := Nat) (vs := [.int .i64 5]) (vv := fun b => atV (factP 5) (some ⟨b, 0, none⟩) 1) (pp := fun _ => True) [] (AA := fun b => [own b (.cells (tmC ⟨1, 5, E0⟩).toArray 31 (0, 0))]) rfl (by kernel_rfl) rfl rfl (fun w' hw' _ => (lfact_calls 5 w').mono (fun en w'' ⟨b, h1, h2⟩ => ⟨b, h1, trivial, h2⟩)) ?_
  rintro f2 _
  refine WL.focus (ow' := baseA g1 ++ ([own f2 (.cells (tmC ⟨1, 5, E0⟩).toArray 31 (0, 0))] ++ ([own f1 (.cells (tmC ⟨1, 5, E0⟩).toArray 31 (0, 0))]))) (perm_cat [[own f2 (.cells (tmC ⟨1, 5, E0⟩).toArray 31 (0, 0))], baseA g1, [own f1 (.cells (tmC ⟨1, 5, E0⟩).toArray 31 (0, 0))]] [1, 0, 2] (by decide) rfl) ?_
  refine WL.callTA (ι := BaseG) (vs := [ptr g1.p, atV (factP 5) (some ⟨f2, 0, none⟩) 1]) (vv := fun _ => .tuple #[.bool false, .int .i64 0]) (pp := fun g' => BS g' (1 + 1) [(factP 5, 4)] ∧ g'.p = g1.p) (baseA g1) (AA := fun g' => baseA g') rfl (by kernel_rfl) (by rw [hpg1]; rfl) rfl (fun w' hw' hH => (badd_bs g1 1 [(factP 5, 4)] bsg1 (by decide) (factP 5) (some ⟨f2, 0, none⟩) 1 (by decide) (by decide) w' (hN.keeps hw'.keeps) (Sat.sepI hw' hN.lt) (RT.of_own hw' (List.mem_append_right _ (.head _))) (fun q hq _ => by cases hq; exact Sat.sepO hw' (i := own f2 (.cells (tmC ⟨1, 5, E0⟩).toArray 31 (0, 0))) (.head _) rfl) hH).mono (fun en w'' ⟨g', h1, h2, h3⟩ => ⟨g', by rw [h1, fact5]; rfl, by first | rwa [add5a] at h2 | rwa [add5b] at h2, h3⟩)) ?_
  rintro g2 ⟨bsg2, hpg2⟩
  refine WL.val (OV.move rfl) rfl ?_
  refine WL.val (OV.extract rfl rfl) rfl ?_
  refine WL.val (OV.extract rfl rfl) rfl ?_
  refine WL.val (OV.assign rfl) rfl ?_
  refine WL.val (OV.assign rfl) rfl ?_
  refine WL.nil ?_
  refine WX.next ?_
  refine WC.seq ?_
  refine WC.region ?_
  refine WL.val (OV.move rfl) rfl ?_
  refine WL.callTA (ι := BaseG) (vs := [ptr g2.p]) (vv := fun _ => .int .i64 1) (pp := fun g' => BS g' 2 [(factP 5, 2)] ∧ g'.p = g2.p) (baseA g2) (AA := fun g' => baseA g') rfl (by kernel_rfl) (by rw [hpg2, hpg1]; rfl) rfl (fun w' hw' hH => (bturn_bs g2 2 _ bsg2 w' hH).mono (fun en w'' ⟨g', h1, h2, h3⟩ => ⟨g', h1, h2, h3⟩)) ?_
  rintro g3 ⟨bsg3, hpg3⟩
  refine WL.val (OV.assign rfl) rfl ?_
  refine WL.nil ?_
  refine WX.next ?_
  refine WC.seq ?_
  refine WC.region ?_
  refine WL.val (OV.move rfl) rfl ?_
  refine WL.callTA (ι := AnsA) (vs := [ptr g3.p, .int .i64 2]) (vv := fun z => .slice z.a 1 z.c) (pp := fun z => z.ys.map AG.x = [factP 5]) (baseA g3) (AA := fun z => baseA z.g ++ atsA z.a z.c z.ys) rfl (by kernel_rfl) (by rw [hpg3, hpg2, hpg1]; rfl) rfl (fun w' hw' hH => (bfacts_bs g3 2 _ bsg3 2 w' hH).mono (fun en w'' ⟨z, h1, h2, h3⟩ => ⟨z, by rw [h1, show z.ys.length = 1 from by have h := congrArg List.length h2.1; rw [sel5, List.length_map] at h; exact h], by rw [h2.1, sel5], h3⟩)) ?_
  rintro z hz
  obtain ⟨y, hy⟩ : ∃ y, z.ys = [y] := by
    have h := congrArg List.length hz
    rw [List.length_map] at h
    exact List.length_eq_one_iff.1 h
  have hyx : y.x = factP 5 := by rw [hy] at hz; simpa using hz
  refine WL.val (OV.assign rfl) rfl ?_
  refine WL.nil ?_
  refine WX.next ?_
  refine WC.seq ?_
  refine WC.know (fun w' hw => (show ∃ q, z.a = some ⟨q, 0, none⟩ from row_addrK (hw.it (rowAt z.a z.c z.ys) (by simp [atsA])) (by rw [hy]; exact Nat.one_pos))) (fun hza => ?_)
  refine WC.drawn (fun w' => (rowAt z.a z.c z.ys).φ w') [] (by kernel_rfl) (by kernel_rfl) (m := 30) rfl ?_
  refine WH.free 0 rfl (by kernel_rfl) (by kernel_rfl) (by kernel_rfl) rfl (fun _ => (fun _ hw => hw.it _ (by simp [atsA]))) (OV.move rfl) rfl (listed' := [true, false, false, false, false, false, false, false, false, false, false, false, false, false, false, false, false, false, false, false, false, false, false, false, false, false, false, false, false, false]) rfl ?_
  refine WH.free 1 rfl (by kernel_rfl) (by kernel_rfl) (by kernel_rfl) rfl (fun _ => (fun _ hw => hw.it _ (by simp [atsA]))) (OV.move rfl) rfl (listed' := [true, true, false, false, false, false, false, false, false, false, false, false, false, false, false, false, false, false, false, false, false, false, false, false, false, false, false, false, false, false]) rfl ?_
  refine WH.known (t := 28) (b := true) rfl (by rfl) ?_
  refine WH.freeG 2 (b := true) rfl (by kernel_rfl) (by kernel_rfl) (by kernel_rfl) rfl (fun _ => (fun _ hw => hw.it _ (by simp [atsA]))) rfl rfl rfl (OV.move rfl) rfl (listed' := [true, true, true, false, false, false, false, false, false, false, false, false, false, false, false, false, false, false, false, false, false, false, false, false, false, false, false, false, false, false]) rfl ?_
  refine WH.freeG 3 (b := true) rfl (by kernel_rfl) (by kernel_rfl) (by kernel_rfl) rfl (fun _ => (fun _ hw => hw.it _ (by simp [atsA]))) rfl rfl rfl (OV.not rfl) rfl (listed' := [true, true, true, true, false, false, false, false, false, false, false, false, false, false, false, false, false, false, false, false, false, false, false, false, false, false, false, false, false, false]) rfl ?_
  refine WH.free 4 rfl (by kernel_rfl) (by kernel_rfl) (by kernel_rfl) rfl (fun _ => (fun _ hw => hw.it _ (by simp [atsA]))) (OV.pickT rfl rfl) rfl (listed' := [true, true, true, true, true, false, false, false, false, false, false, false, false, false, false, false, false, false, false, false, false, false, false, false, false, false, false, false, false, false]) rfl ?_
  refine WH.free 5 rfl (by kernel_rfl) (by kernel_rfl) (by kernel_rfl) rfl (fun _ => (fun _ hw => hw.it _ (by simp [atsA]))) (OV.move rfl) rfl (listed' := [true, true, true, true, true, true, false, false, false, false, false, false, false, false, false, false, false, false, false, false, false, false, false, false, false, false, false, false, false, false]) rfl ?_
  refine WH.known (t := 32) (b := true) rfl (by rfl) ?_
  refine WH.freeG 6 (b := true) rfl (by kernel_rfl) (by kernel_rfl) (by kernel_rfl) rfl (fun _ => (fun _ hw => hw.it _ (by simp [atsA]))) rfl rfl rfl (OV.move rfl) rfl (listed' := [true, true, true, true, true, true, true, false, false, false, false, false, false, false, false, false, false, false, false, false, false, false, false, false, false, false, false, false, false, false]) rfl ?_
  refine WH.freeG 7 (b := true) rfl (by kernel_rfl) (by kernel_rfl) (by kernel_rfl) rfl (fun _ => (fun _ hw => hw.it _ (by simp [atsA]))) rfl rfl rfl (OV.eql rfl rfl) rfl (listed' := [true, true, true, true, true, true, true, true, false, false, false, false, false, false, false, false, false, false, false, false, false, false, false, false, false, false, false, false, false, false]) rfl ?_
  refine WH.free 8 rfl (by kernel_rfl) (by kernel_rfl) (by kernel_rfl) rfl (fun _ => (fun _ hw => hw.it _ (by simp [atsA]))) (OV.pickT rfl rfl) rfl (listed' := [true, true, true, true, true, true, true, true, true, false, false, false, false, false, false, false, false, false, false, false, false, false, false, false, false, false, false, false, false, false]) rfl ?_
  refine WH.free 9 rfl (by kernel_rfl) (by kernel_rfl) (by kernel_rfl) rfl (fun _ => (fun _ hw => hw.it _ (by simp [atsA]))) (OV.move rfl) rfl (listed' := [true, true, true, true, true, true, true, true, true, true, false, false, false, false, false, false, false, false, false, false, false, false, false, false, false, false, false, false, false, false]) rfl ?_
  refine WH.known (t := 36) (b := true) rfl (by rfl) ?_
  refine WH.freeG 10 (b := true) rfl (by kernel_rfl) (by kernel_rfl) (by kernel_rfl) rfl (fun _ => (fun _ hw => hw.it _ (by simp [atsA]))) rfl rfl rfl (OV.move rfl) rfl (listed' := [true, true, true, true, true, true, true, true, true, true, true, false, false, false, false, false, false, false, false, false, false, false, false, false, false, false, false, false, false, false]) rfl ?_
  refine WH.freeG 11 (b := true) rfl (by kernel_rfl) (by kernel_rfl) (by kernel_rfl) rfl (fun _ => (fun _ hw => hw.it _ (by simp [atsA]))) rfl rfl rfl (OV.eql rfl rfl) rfl (listed' := [true, true, true, true, true, true, true, true, true, true, true, true, false, false, false, false, false, false, false, false, false, false, false, false, false, false, false, false, false, false]) rfl ?_
  refine WH.free 12 rfl (by kernel_rfl) (by kernel_rfl) (by kernel_rfl) rfl (fun _ => (fun _ hw => hw.it _ (by simp [atsA]))) (OV.pickT rfl rfl) rfl (listed' := [true, true, true, true, true, true, true, true, true, true, true, true, true, false, false, false, false, false, false, false, false, false, false, false, false, false, false, false, false, false]) rfl ?_
  refine WH.free 13 rfl (by kernel_rfl) (by kernel_rfl) (by kernel_rfl) rfl (fun _ => (fun _ hw => hw.it _ (by simp [atsA]))) (OV.move rfl) rfl (listed' := [true, true, true, true, true, true, true, true, true, true, true, true, true, true, false, false, false, false, false, false, false, false, false, false, false, false, false, false, false, false]) rfl ?_
  refine WH.known (t := 40) (b := true) rfl (by rfl) ?_
  refine WH.freeG 14 (b := true) rfl (by kernel_rfl) (by kernel_rfl) (by kernel_rfl) rfl (fun _ => (fun _ hw => hw.it _ (by simp [atsA]))) rfl rfl rfl (OV.move rfl) rfl (listed' := [true, true, true, true, true, true, true, true, true, true, true, true, true, true, true, false, false, false, false, false, false, false, false, false, false, false, false, false, false, false]) rfl ?_
  refine WH.freeG 15 (b := true) rfl (by kernel_rfl) (by kernel_rfl) (by kernel_rfl) rfl (fun _ => (fun _ hw => hw.it _ (by simp [atsA]))) rfl rfl rfl (OV.eql rfl rfl) rfl (listed' := [true, true, true, true, true, true, true, true, true, true, true, true, true, true, true, true, false, false, false, false, false, false, false, false, false, false, false, false, false, false]) rfl ?_
  refine WH.free 16 rfl (by kernel_rfl) (by kernel_rfl) (by kernel_rfl) rfl (fun _ => (fun _ hw => hw.it _ (by simp [atsA]))) (OV.pickT rfl rfl) rfl (listed' := [true, true, true, true, true, true, true, true, true, true, true, true, true, true, true, true, true, false, false, false, false, false, false, false, false, false, false, false, false, false]) rfl ?_
  refine WH.free 17 rfl (by kernel_rfl) (by kernel_rfl) (by kernel_rfl) rfl (fun _ => (fun _ hw => hw.it _ (by simp [atsA]))) (OV.move rfl) rfl (listed' := [true, true, true, true, true, true, true, true, true, true, true, true, true, true, true, true, true, true, false, false, false, false, false, false, false, false, false, false, false, false]) rfl ?_
  refine WH.known (t := 44) (b := true) rfl (by rfl) ?_
  refine WH.freeG 18 (b := true) rfl (by kernel_rfl) (by kernel_rfl) (by kernel_rfl) rfl (fun _ => (fun _ hw => hw.it _ (by simp [atsA]))) rfl rfl rfl (OV.move rfl) rfl (listed' := [true, true, true, true, true, true, true, true, true, true, true, true, true, true, true, true, true, true, true, false, false, false, false, false, false, false, false, false, false, false]) rfl ?_
  first
  | (refine WH.freeG 19 (b := true) rfl (by kernel_rfl) (by kernel_rfl) (by kernel_rfl) rfl (fun _ => (fun _ hw => hw.it _ (by simp [atsA]))) rfl rfl rfl (OV.lenSlice rfl T.u27) rfl (listed' := [true, true, true, true, true, true, true, true, true, true, true, true, true, true, true, true, true, true, true, true, false, false, false, false, false, false, false, false, false, false]) rfl ?_)
  | (refine WH.freeG 19 (b := true) rfl (by kernel_rfl) (by kernel_rfl) (by kernel_rfl) rfl (fun _ => (fun _ hw => hw.it _ (by simp [atsA]))) rfl rfl rfl (OV.lenStr rfl T.u27) rfl (listed' := [true, true, true, true, true, true, true, true, true, true, true, true, true, true, true, true, true, true, true, true, false, false, false, false, false, false, false, false, false, false]) rfl ?_)
  refine WH.freeG 20 (b := true) rfl (by kernel_rfl) (by kernel_rfl) (by kernel_rfl) rfl (fun _ => (fun _ hw => hw.it _ (by simp [atsA]))) rfl rfl rfl (OV.eql rfl rfl) rfl (listed' := [true, true, true, true, true, true, true, true, true, true, true, true, true, true, true, true, true, true, true, true, true, false, false, false, false, false, false, false, false, false]) rfl ?_
  refine WH.free 21 rfl (by kernel_rfl) (by kernel_rfl) (by kernel_rfl) rfl (fun _ => (fun _ hw => hw.it _ (by simp [atsA]))) (OV.pickT rfl rfl) rfl (listed' := [true, true, true, true, true, true, true, true, true, true, true, true, true, true, true, true, true, true, true, true, true, true, false, false, false, false, false, false, false, false]) rfl ?_
  refine WH.free 22 rfl (by kernel_rfl) (by kernel_rfl) (by kernel_rfl) rfl (fun _ => (fun _ hw => hw.it _ (by simp [atsA]))) (OV.move rfl) rfl (listed' := [true, true, true, true, true, true, true, true, true, true, true, true, true, true, true, true, true, true, true, true, true, true, true, false, false, false, false, false, false, false]) rfl ?_
  refine WH.known (t := 49) (b := true) rfl (by rfl) ?_
  refine WH.freeG 23 (b := true) rfl (by kernel_rfl) (by kernel_rfl) (by kernel_rfl) rfl (fun _ => (fun _ hw => hw.it _ (by simp [atsA]))) rfl rfl rfl (OV.move rfl) rfl (listed' := [true, true, true, true, true, true, true, true, true, true, true, true, true, true, true, true, true, true, true, true, true, true, true, true, false, false, false, false, false, false]) rfl ?_
  obtain ⟨q, hq⟩ := hza
  refine WH.freeG 24 (b := true) rfl (by kernel_rfl) (by kernel_rfl) (by kernel_rfl) rfl (fun _ => (fun _ hw => hw.it _ (by simp [atsA]))) rfl rfl rfl ((OV.indexSlice (show _ = some (Value.slice (some ⟨q, 0, none⟩) 1 z.c) by rw [← hq]; rfl) rfl T.u27 T.z34 (by omega)).cast (u := .pointer (some ((⟨q, 0, none⟩ : Addr).add (0 * 5)))) rfl) rfl (listed' := [true, true, true, true, true, true, true, true, true, true, true, true, true, true, true, true, true, true, true, true, true, true, true, true, true, false, false, false, false, false]) rfl ?_
  refine WH.takeG 25 (b := true) rfl (by kernel_rfl) (by kernel_rfl) (by kernel_rfl) (by kernel_rfl) (fun _ hw => hw.it _ (by simp [atsA])) rfl rfl rfl (OV.loadN (cs := agC y) rfl T.u34 rfl T.z34 (fun _ hw j v hj => by have h := row_cellsφE hq hw j v (by rw [hy]; simpa using hj); rwa [Nat.zero_mul, addr_add0])) rfl (listed' := [true, true, true, true, true, true, true, true, true, true, true, true, true, true, true, true, true, true, true, true, true, true, true, true, true, true, false, false, false, false]) rfl ?_
  refine WH.only 26 rfl (by kernel_rfl) (listed' := [true, true, true, true, true, true, true, true, true, true, true, true, true, true, true, true, true, true, true, true, true, true, true, true, true, true, true, false, false, false]) rfl (fl' := false) rfl ?_
  refine WL.go (b := true) rfl rfl rfl ?_
  refine WL.callTA (ι := Nat) (vs := [.int .i64 5]) (vv := fun b => atV (factP 5) (some ⟨b, 0, none⟩) 1) (pp := fun _ => True) [] (AA := fun b => [own b (.cells (tmC ⟨1, 5, E0⟩).toArray 31 (0, 0))]) rfl (by kernel_rfl) rfl rfl (fun w' hw' _ => (lfact_calls 5 w').mono (fun en w'' ⟨b, h1, h2⟩ => ⟨b, h1, trivial, h2⟩)) ?_
  rintro f3 _
  refine WL.nil ?_
  refine WX.contD (by kernel_rfl) (fun _ => (fun _ hw => hw.it _ (by simp [atsA]))) ?_
  refine WH.only 27 rfl (by kernel_rfl) (listed' := [true, true, true, true, true, true, true, true, true, true, true, true, true, true, true, true, true, true, true, true, true, true, true, true, true, true, true, true, false, false]) rfl (fl' := false) rfl ?_
  refine WL.go (b := true) rfl rfl rfl ?_
  refine WL.call0 (v := .bool true) (vs := [atV y.x y.a y.c, atV (factP 5) (some ⟨f3, 0, none⟩) 1]) (by kernel_rfl) rfl rfl (fun w' hw' => (sameAtom_calls y.x (factP 5) y.a (some ⟨f3, 0, none⟩) y.c 1 (by rw [hyx]; decide) (by decide) w' (RT.of_row (c := y.c) rfl hw' (by simp [atsA, hy, argsA])) (RT.of_own hw' (.head _))).mono (fun en w'' ⟨h1, h2⟩ => ⟨by rw [h1, hyx, decide_eq_true rfl], h2⟩)) ?_
  refine WL.nil ?_
  refine WX.contD (by kernel_rfl) (fun _ => (fun _ hw => hw.it _ (by simp [atsA]))) ?_
  refine WH.free 28 rfl (by kernel_rfl) (by kernel_rfl) (by kernel_rfl) rfl (fun _ => (fun _ hw => hw.it _ (by simp [atsA]))) (OV.pickT rfl rfl) rfl (listed' := [true, true, true, true, true, true, true, true, true, true, true, true, true, true, true, true, true, true, true, true, true, true, true, true, true, true, true, true, true, false]) rfl ?_
  refine WH.free 29 rfl (by kernel_rfl) (by kernel_rfl) (by kernel_rfl) rfl (fun _ => (fun _ hw => hw.it _ (by simp [atsA]))) (OV.assign rfl) rfl (listed' := [true, true, true, true, true, true, true, true, true, true, true, true, true, true, true, true, true, true, true, true, true, true, true, true, true, true, true, true, true, true]) rfl ?_
  refine WH.done (by kernel_rfl) ?_
  refine WX.next ?_
  refine WC.ret ?_
  exact WX.ret1 rfl rfl rfl (fun w' hw => ⟨rfl, hw.fr⟩)

end Go.Proofs.YtgiiifadbnpfkaaGreatDoor

namespace Go.Proofs.YtgiiifadbnpfkaaGreatDoor
open Go Go.Hw
set_option linter.unusedSimpArgs false
set_option linter.unusedVariables false
/-! ### Rounds of atoms, as they were handed in -/
structure RG where
  ys : List AG
  a : Option Addr
  c : Nat
/-- A list of lists of atoms. -/
structure RR (w : World) (a : Option Addr) (rs : List RG) : Prop where
  nil : a = none → rs.length = 0
  at_ : ∀ q, a = some q → ∀ i r, rs[i]? = some r → w.cell? (q.add i) = some (.slice r.a r.ys.length r.c)
  each : ∀ r ∈ rs, RA w r.a r.ys
theorem RR.get {w : World} {a : Option Addr} {rs : List RG} (h : RR w a rs) {i : Nat} (hi : i < rs.length) : ∃ q r, a = some q ∧ rs[i]? = some r ∧ r ∈ rs ∧ RA w r.a r.ys ∧ w.cell? (q.add i) = some (.slice r.a r.ys.length r.c) := by
  cases a with
  | none => have := h.nil rfl; omega
  | some q => exact ⟨q, rs[i], rfl, List.getElem?_eq_getElem hi, List.getElem_mem hi, h.each _ (List.getElem_mem hi), h.at_ q rfl i _ (List.getElem?_eq_getElem hi)⟩
theorem BS.mono {g : BaseG} {k m : Nat} {F : List (At × Nat)} (b : BS g k F) (h : k ≤ m) : BS g m F := ⟨b.ok, b.fs, by have := b.vk; omega, by have := b.rk; omega, by have := b.fk; omega⟩
theorem addF_not {F : List (At × Nat)} {x : At} (h : factB x = false) : addF F x = F := by
  unfold addF; rw [if_neg (fun k => by rw [h] at k; cases k.1)]
end Go.Proofs.YtgiiifadbnpfkaaGreatDoor

namespace Go.Proofs.YtgiiifadbnpfkaaGreatDoor
open Go Go.Hw
set_option linter.unusedSimpArgs false
set_option linter.unusedVariables false
section
open Go.ChangeShapes Go.WideShapes Go.ChangeAt Go.RowKit
variable {H : Type} {enc : TypeId × Value → H} {w : World} {base : Nat} {spare : Nat → Bool} {held : Bool} {r : Reach} {b0 : Nat}
def inI (k : Int) : Prop := -9223372036854775808 ≤ k ∧ k ≤ 9223372036854775807
theorem getD_at {α : Type} {l : List α} {i : Nat} {x d : α} (h : l[i]? = some x) : l.getD i d = x := by rw [List.getD_eq_getElem?_getD, h]; rfl
theorem len_wt {α : Type} (wt : α → Nat) {k : Nat} (h : ∀ y, k ≤ wt y) (ys : List α) : k * ys.length ≤ (ys.map wt).sum := by
  induction ys with
  | nil => simp
  | cons x ys ih => have := h x; simp only [List.map_cons, List.sum_cons, List.length_cons]; rw [Nat.mul_add]; omega
theorem bulk_sum {α : Type} (dflt : α) (wt : α → Nat) : ∀ (elems : List (DataW H)) (ys : List α), elems.length = ys.length → (∀ i d, elems[i]? = some d → wt (ys.getD i dflt) ≤ Rows.uptoBulk d) → (ys.map wt).sum ≤ Rows.uptoBulkAll elems
  | [], [], _, _ => by simp [Rows.uptoBulkAll]
  | [], _ :: _, h, _ => by simp at h
  | _ :: _, [], h, _ => by simp at h
  | d :: elems, y :: ys, h, hd => by
    have h1 := hd 0 d rfl
    have h2 := bulk_sum dflt wt elems ys (by simpa using h) (fun i d hi => hd (i + 1) d hi)
    simp only [List.getD_cons_zero] at h1
    simp only [List.map_cons, List.sum_cons, Rows.uptoBulkAll]
    omega
/-- A list of things of s cells each. -/
theorem trod_listN {α : Type} (dflt : α) {tt t : TypeId} {s : Nat} {fuel : Nat} {cs : List Value} {x : DataW H × List MemPlace} (htt : Program.underlying Tryz.prog tt = some (.slice t)) (hs : Program.cellsOf Tryz.prog t = s) (en : α → List Value) (hl : ∀ y, (en y).length = s) (G : α → Prop) (wt : α → Nat)
    (hel : ∀ fuel cs x, DataW.trod enc Tryz.prog w base spare held fuel t cs = some x → ∃ y, cs = en y ∧ G y ∧ wt y ≤ Rows.uptoBulk x.1) (h : DataW.trod enc Tryz.prog w base spare held fuel tt cs = some x) :
    ∃ a c, ∃ ys : List α, cs = [.slice a ys.length c] ∧ (a = none → ys.length = 0) ∧ (∀ q, a = some q → ∀ i y, ys[i]? = some y → ∀ j v, (en y)[j]? = some v → w.cell? ((q.add (i * s)).add j) = some v) ∧ (∀ y ∈ ys, G y) ∧ (ys.map wt).sum + 1 ≤ Rows.uptoBulk x.1 := by
  rcases DataW.trod_slice htt h with ⟨rfl, rfl⟩ | ⟨a, len, cap, elems, rest, n, rfl, rfl, rfl, hb, hlc, hcm, hlen, hele, _, _⟩
  · exact ⟨none, 0, [], rfl, fun _ => rfl, (fun q hq => (by cases hq)), (fun y hy => by cases hy), by simp [Rows.uptoBulk]⟩
  · have key : ∀ i, i < len → ∃ y : α, ((∀ j v, (en y)[j]? = some v → w.cell? ((a.add (i * s)).add j) = some v) ∧ G y) ∧ ∀ d, (elems.map (·.1))[i]? = some d → wt y ≤ Rows.uptoBulk d := by
      intro i hi
      have h3 := hele i hi
      rw [hs] at h3
      have h4 : i < elems.length := by omega
      rw [List.getElem?_eq_getElem h4] at h3
      obtain ⟨us, hus, h5⟩ := Option.bind_eq_some_iff.1 h3
      obtain ⟨y, rfl, h6, h7⟩ := hel _ _ _ h5
      have h8 := (World.cells?_some hus).2.2
      refine ⟨y, ⟨fun j v hj => ?_, h6⟩, fun d hd => ?_⟩
      · have hj7 : j < s := by have := (List.getElem?_eq_some_iff.1 hj).1; rw [hl] at this; exact this
        rw [h8 j hj7]; exact hj
      · rw [List.getElem?_map, List.getElem?_eq_getElem h4] at hd
        simp only [Option.map_some, Option.some.injEq] at hd
        rw [← hd]; exact h7
    obtain ⟨ys, hyl, hq⟩ := exists_list dflt _ len key
    refine ⟨some a, cap, ys, by rw [hyl], fun h => (by cases h), fun q hq' i y hy => ?_, fun y hy => ?_, ?_⟩
    · simp only [Option.some.injEq] at hq'
      subst hq'
      have hi : i < len := by have := (List.getElem?_eq_some_iff.1 hy).1; omega
      have h9 := (hq i hi).1.1
      rwa [getD_at hy] at h9
    · obtain ⟨i, hi⟩ := List.mem_iff_getElem?.1 hy
      have hil : i < len := by have := (List.getElem?_eq_some_iff.1 hi).1; omega
      have h9 := (hq i hil).1.2
      rwa [getD_at hi] at h9
    · have := bulk_sum dflt wt (elems.map (·.1)) ys (by simp [hyl, hlen]) (fun i d hd => by
        have hi : i < len := by have := (List.getElem?_eq_some_iff.1 hd).1; simp at this; omega
        exact (hq i hi).2 d hd)
      simp only [Rows.uptoBulk]; omega
theorem inI_of {n : Int} (h : (Lit.int .i64 n).wf = true) : inI n := by simpa [inI, Lit.wf, IntKind.min, IntKind.max, IntKind.signed, IntKind.bits] using h
/-- A term's weight. -/
def wtT (t : Tm) : Nat := t.s.size + 4
set_option maxRecDepth 100000 in
theorem trod_term {fuel : Nat} {cs : List Value} {x : DataW H × List MemPlace} (h : DataW.trod enc Tryz.prog w base spare held fuel 31 cs = some x) :
    ∃ t : Tm, cs = tmC t ∧ (inI t.kind ∧ inI t.n) ∧ wtT t ≤ Rows.uptoBulk x.1 ∧ x.1 = .agg [.lit (.int .i64 t.kind), .lit (.int .i64 t.n), .lit (.string t.s.data.toList)] := by
  obtain ⟨xs, n, rfl, rfl, hl, hxs, hf⟩ := DataW.trod_struct T.u31 h
  have hl3 : cs.length = 3 := by rw [hl]; kernel_rfl
  have cI : Program.cellsOf Tryz.prog 3 = 1 := by kernel_rfl
  have cS : Program.cellsOf Tryz.prog 9 = 1 := by kernel_rfl
  match cs, hl3 with
  | [v0, v1, v2], _ =>
    match xs, hxs with
    | [x0, x1, x2], _ =>
      have k0 : DataW.trod enc Tryz.prog w base spare held n 3 [v0] = some x0 := by
        have k : DataW.trod enc Tryz.prog w base spare held n 3 (List.take (Program.cellsOf Tryz.prog 3) (List.drop 0 [v0, v1, v2])) = some x0 := hf 0 _ rfl
        rw [cI] at k; exact k
      have k1 : DataW.trod enc Tryz.prog w base spare held n 3 [v1] = some x1 := by
        have k : DataW.trod enc Tryz.prog w base spare held n 3 (List.take (Program.cellsOf Tryz.prog 3) (List.drop 1 [v0, v1, v2])) = some x1 := hf 1 _ rfl
        rw [cI] at k; exact k
      have k2 : DataW.trod enc Tryz.prog w base spare held n 9 [v2] = some x2 := by
        have k : DataW.trod enc Tryz.prog w base spare held n 9 (List.take (Program.cellsOf Tryz.prog 9) (List.drop 2 [v0, v1, v2])) = some x2 := hf 2 _ rfl
        rw [cS] at k; exact k
      obtain ⟨kind, e0, rfl, w0⟩ := DataW.trod_int T.u3 k0
      obtain ⟨num, e1, rfl, w1⟩ := DataW.trod_int T.u3 k1
      obtain ⟨s, e2, rfl, w2⟩ := DataW.trod_string T.u9 k2
      simp only [List.cons.injEq, and_true] at e0 e1 e2
      subst e0; subst e1; subst e2
      refine ⟨⟨kind, num, s⟩, rfl, ⟨inI_of w0, inI_of w1⟩, ?_, rfl⟩
      simp only [List.map_cons, List.map_nil, Rows.uptoBulk, Rows.uptoBulkAll, wtT]
      have : s.data.toList.length = s.size := by simp
      omega
/-- An atom's weight. -/
def wtA (y : AG) : Nat := y.x.name.size + y.x.args.length + 7
set_option maxRecDepth 100000 in
theorem trod_atom {fuel : Nat} {cs : List Value} {x : DataW H × List MemPlace} (h : DataW.trod enc Tryz.prog w base spare held fuel 34 cs = some x) :
    ∃ y : AG, cs = agC y ∧ RT w y.a y.x.args ∧ wtA y ≤ Rows.uptoBulk x.1 := by
  obtain ⟨xs, n, rfl, rfl, hl, hxs, hf⟩ := DataW.trod_struct T.u34 h
  have hl5 : cs.length = 5 := by rw [hl]; kernel_rfl
  have cT : Program.cellsOf Tryz.prog 31 = 3 := by kernel_rfl
  have cS : Program.cellsOf Tryz.prog 9 = 1 := by kernel_rfl
  have cL : Program.cellsOf Tryz.prog 32 = 1 := by kernel_rfl
  match cs, hl5 with
  | [v0, v1, v2, v3, v4], _ =>
    match xs, hxs with
    | [x0, x1, x2], _ =>
      have k0 : DataW.trod enc Tryz.prog w base spare held n 31 [v0, v1, v2] = some x0 := by
        have k : DataW.trod enc Tryz.prog w base spare held n 31 (List.take (Program.cellsOf Tryz.prog 31) (List.drop 0 [v0, v1, v2, v3, v4])) = some x0 := hf 0 _ rfl
        rw [cT] at k; exact k
      have k1 : DataW.trod enc Tryz.prog w base spare held n 9 [v3] = some x1 := by
        have k : DataW.trod enc Tryz.prog w base spare held n 9 (List.take (Program.cellsOf Tryz.prog 9) (List.drop 3 [v0, v1, v2, v3, v4])) = some x1 := hf 1 _ rfl
        rw [cS] at k; exact k
      have k2 : DataW.trod enc Tryz.prog w base spare held n 32 [v4] = some x2 := by
        have k : DataW.trod enc Tryz.prog w base spare held n 32 (List.take (Program.cellsOf Tryz.prog 32) (List.drop 4 [v0, v1, v2, v3, v4])) = some x2 := hf 2 _ rfl
        rw [cL] at k; exact k
      obtain ⟨t, e0, _, b0, _⟩ := trod_term k0
      obtain ⟨s, e1, rfl, w1⟩ := DataW.trod_string T.u9 k1
      obtain ⟨a, c, ts, e2, ha, hat, _, b2⟩ := trod_listN (default : Tm) T.u32 (by kernel_rfl) tmC tmC_len (fun _ => True) wtT (fun fuel cs x hx => by
        obtain ⟨t, e, _, hb, _⟩ := trod_term hx
        exact ⟨t, e, trivial, hb⟩) k2
      simp only [tmC, List.cons.injEq, and_true] at e0 e1 e2
      obtain ⟨rfl, rfl, rfl⟩ := e0
      subst e1; subst e2
      refine ⟨⟨⟨t, s, ts⟩, a, c⟩, rfl, ⟨ha, hat⟩, ?_⟩
      have h1 := len_wt wtT (k := 1) (fun y => by unfold wtT; omega) ts
      have h2 : s.data.toList.length = s.size := by simp
      unfold wtT at b0
      simp only [List.map_cons, List.map_nil, Rows.uptoBulk, Rows.uptoBulkAll, wtA]
      omega
theorem le_sum {α : Type} (wt : α → Nat) {ys : List α} {y : α} (h : y ∈ ys) : wt y ≤ (ys.map wt).sum := by
  induction ys with
  | nil => cases h
  | cons x ys ih =>
    rw [List.map_cons, List.sum_cons]
    rcases List.mem_cons.1 h with rfl | h
    · omega
    · have := ih h; omega
/-- term.none, as the row lays it. -/
theorem none_laid {fuel : Nat} {cs : Array Value} {q : List MemPlace} (hg : Program.globalNamed Tryz.prog "hearsay/term.none" = some 1) (hv : w.var? Tryz.prog "hearsay/term.none" = some cs) (hd : DataW.trod enc Tryz.prog w base spare held fuel 31 cs.toList = some (Rows.laid_hearsay_term_none, q)) : NoneAt w := by
  obtain ⟨t, e, _, _, ht⟩ := trod_term hd
  have ht0 : t = T0 := by
    simp only [Rows.laid_hearsay_term_none, DataW.agg.injEq, List.cons.injEq, DataW.lit.injEq, Lit.int.injEq, true_and, Lit.string.injEq, and_true] at ht
    obtain ⟨h1, h2, h3⟩ := ht
    obtain ⟨k, n, s⟩ := t
    simp only at h1 h2 h3
    subst h1; subst h2
    have : s = E0 := by
      obtain ⟨⟨l⟩⟩ := s
      have h4 : ([] : List UInt8) = l := h3
      subst h4; rfl
    rw [this]; rfl
  intro j v hj
  rw [World.var?_cell hg hv j, ← Array.getElem?_toList, e, ht0]
  exact hj
end

end Go.Proofs.YtgiiifadbnpfkaaGreatDoor

namespace Go.Proofs.YtgiiifadbnpfkaaGreatDoor
open Go Go.Hw
set_option linter.unusedSimpArgs false
set_option linter.unusedVariables false
structure IG where
  y : AG
  p : Nat
def igC (i : IG) : List Value := agC i.y ++ [.int .i64 (i.p : Int)]
theorem igC_len (i : IG) : (igC i).length = 6 := rfl
theorem igC_one (i : IG) : ∀ v ∈ igC i, v.oneCell' = true := by simp [igC, agC, atC, Value.oneCell']
theorem ig_left {i : IG} {j : Nat} {v : Value} (h : (agC i.y)[j]? = some v) : (igC i)[j]? = some v := by
  have hj := (List.getElem?_eq_some_iff.1 h).1
  unfold igC
  rw [List.getElem?_append_left hj]; exact h
abbrev rowIt (la : Option Addr) (lc : Nat) (is : List IG) : Hw.Item := row 36 6 la is.length lc (is.flatMap igC)
def itsA (la : Option Addr) (lc : Nat) (is : List IG) : List Hw.Item := rowIt la lc is :: argsA (is.map IG.y)
/-- Items that lie one behind the other. -/
structure RIt (w : World) (a : Option Addr) (is : List IG) : Prop where
  nil : a = none → is.length = 0
  at_ : ∀ q, a = some q → ∀ i y, is[i]? = some y → ∀ j v, (igC y)[j]? = some v → w.cell? ((q.add (i * 6)).add j) = some v
  args : ∀ i ∈ is, RT w i.y.a i.y.x.args
theorem RIt.keeps {w w' : World} {a : Option Addr} {is : List IG} (h : RIt w a is) (k : Keeps w w') : RIt w' a is := ⟨h.nil, fun q hq i t ht j v hv => k _ _ (h.at_ q hq i t ht j v hv), fun y hy => (h.args y hy).keeps k⟩
theorem RIt.get {w : World} {a : Option Addr} {is : List IG} (h : RIt w a is) {i : Nat} (hi : i < is.length) : ∃ q y, a = some q ∧ is[i]? = some y ∧ y ∈ is ∧ RT w y.y.a y.y.x.args ∧ ∀ j v, (igC y)[j]? = some v → w.cell? ((q.add (i * 6)).add j) = some v := by
  cases a with
  | none => have := h.nil rfl; omega
  | some q => exact ⟨q, is[i], rfl, List.getElem?_eq_getElem hi, List.getElem_mem hi, h.args _ (List.getElem_mem hi), h.at_ q rfl i _ (List.getElem?_eq_getElem hi)⟩
theorem RIt.of_row {w0 ws w : World} {M I : Nat → Prop} {ow : List Hw.Item} {a : Option Addr} {c : Nat} {is : List IG} (hw : Sat w0 M I ws ow w) (hm : ∀ i ∈ itsA a c is, i ∈ ow) : RIt w a is := by
  have hr : rowIt a c is ∈ ow := hm _ (.head _)
  refine ⟨fun ha => ?_, fun q hq i t ht j v hv => ?_, fun y hy => RT.of_row (c := y.y.c) rfl hw (hm _ (.tail _ (List.mem_map.2 ⟨y.y, List.mem_map.2 ⟨y, hy, rfl⟩, rfl⟩)))⟩
  · rcases (row_base hw hr).2 with ⟨_, h, _⟩ | ⟨b, hb, _⟩
    · exact h
    · rw [ha] at hb; cases hb
  · subst hq
    have hj : j < 6 := (List.getElem?_eq_some_iff.1 hv).1
    have h1 := row_cells hw hr (i * 6 + j) v (by rw [flat_get igC_len is i j t ht hj]; exact hv)
    rwa [add_add] at h1
theorem _root_.Go.Hw.OV.fieldAddrA {P : Program} {n : Nat} {ds : DS} {e : Env} {S : World → Prop} {dst : Option Tmp} {t lt : TypeId} {p : String} {af : Array Edge} {x : Operand} {a : Addr} {f off s : Nat} {fs : Array Field} {g : Option (Nat × Bool)} (hx : ev e x = some (.pointer (some a))) (hu : P.underlying lt = some (.struct fs)) (hf : (fs[f]?).map (fun q => (q.offset, P.sz q.type)) = some (off, some (s + 1))) :
    OV P n ds e S ⟨dst, .fieldAddr lt x f, t, p, af, g⟩ (.pointer (some (a.add off))) := fun _ w ha _ => by
  obtain ⟨q, hq, h⟩ := Option.map_eq_some_iff.1 hf
  simp only [Prod.mk.injEq] at h
  simp [execOp, ha.eval hx, Instr.fieldAt, run_underlying hu, Instr.sureAddr, hq, fieldPlace, Hw.run_sizeOf h.2 w, h.1]
/-- Where an atom stands in a list; -1: nowhere. -/
def placeI (l : List At) (f : At) : Int := if f ∈ l then (l.idxOf f : Int) else -1
theorem idx_first : ∀ {l : List At} {i : Nat} {f : At}, l[i]? = some f → (∀ j, j < i → l[j]? ≠ some f) → l.idxOf f = i
  | [], _, _, h, _ => by simp at h
  | x :: l, 0, f, h, _ => by
    simp only [List.getElem?_cons_zero, Option.some.injEq] at h
    subst h; simp
  | x :: l, i + 1, f, h, hn => by
    have h0 : x ≠ f := fun e => hn 0 (by omega) (by rw [e]; rfl)
    have h1 := idx_first (l := l) (i := i) (f := f) (by simpa using h) (fun j hj => by simpa using hn (j + 1) (by omega))
    rw [List.idxOf_cons, beq_eq_false_iff_ne.2 h0, h1]; rfl
theorem placeI_at {l : List At} {i : Nat} {f : At} (h : l[i]? = some f) (hn : ∀ j, j < i → l[j]? ≠ some f) : placeI l f = (i : Int) := by
  unfold placeI
  rw [if_pos (List.mem_of_getElem? h), idx_first h hn]
theorem placeI_not {l : List At} {f : At} (h : f ∉ l) : placeI l f = -1 := by unfold placeI; rw [if_neg h]
theorem placeI_get {l : List At} {f : At} (h : f ∈ l) : ∃ i : Nat, placeI l f = (i : Int) ∧ i < l.length ∧ l[i]? = some f := by
  refine ⟨l.idxOf f, by unfold placeI; rw [if_pos h], List.idxOf_lt_length_iff.2 h, ?_⟩
  rw [List.getElem?_eq_getElem (List.idxOf_lt_length_iff.2 h)]
  exact congrArg some (List.getElem_idxOf _)
abbrev xsI (is : List IG) : List At := is.map fun i => i.y.x

set_option maxRecDepth 10000 in
theorem place_calls (ls : List IG) (a1 : Option Addr) (c1 : Nat) (f : At) (fa : Option Addr) (fc : Nat) (h1 : ls.length ≤ 1099511627776) (hb : ∀ i ∈ ls, i.y.x.args.length ≤ 1099511627776) (hf : f.args.length ≤ 1099511627776) (w : World) (hr1 : RIt w a1 ls) (hr2 : RT w fa f.args) : Calls Tryz.prog 16 #[.slice a1 ls.length c1, atV f fa fc] w fun e w' => e = .returned (.int .i64 (placeI (xsI ls) f)) ∧ Fr0 w w' := by
  refine enterS (args := [.slice a1 ls.length c1, atV f fa fc]) (fun _ => False) Tryz.func16 rfl Tryz.ntmps16 rfl rfl ?_
  refine WC.seq ?_
  refine WC.region ?_
  refine WL.box rfl rfl rfl ?_
  intro b3
  refine WL.val (OV.assign rfl) rfl ?_
  refine WL.nil ?_
  refine WX.next ?_
  refine WC.seq ?_
  refine WC.seq ?_
  refine WC.region ?_
  refine WL.val (OV.assign rfl) rfl ?_
  refine WL.nil ?_
  refine WX.next ?_
  refine WC.block ?_
  refine WC.loop1 (fun (i : Nat) => [(0, .slice a1 ls.length c1), (3, .pointer (some ⟨b3, 0, none⟩)), (5, .int .i64 (i : Int))])
      (fun i w' => (i ≤ ls.length ∧ ∀ j, j < i → (xsI ls)[j]? ≠ some f) ∧ Sat w (fun _ => False) (fun b => b < w.heap.size) w (own b3 (.cells (atC f fa fc).toArray 34 (0, 0)) :: []) w')
      (fun i => ls.length - i) 0 ⟨rfl, rfl, rfl, trivial⟩ (fun w' hw => ⟨⟨by omega, (fun j hj => by omega)⟩, hw⟩) ?_
  intro i
  refine WC.pure (fun hi => ?_)
  obtain ⟨hi, hnf⟩ := hi
  refine WC.seq ?_
  refine WC.seq ?_
  refine WC.region ?_
  refine WL.val (OV.move rfl) rfl ?_
  refine WL.val (OV.move rfl) rfl ?_
  first
  | (refine WL.val (OV.lenSlice rfl T.u24) rfl ?_)
  | (refine WL.val (OV.lenStr rfl T.u24) rfl ?_)
  refine WL.val (OV.lss rfl rfl) rfl ?_
  refine WL.nil ?_
  refine WX.next ?_
  refine WC.cond rfl (fun c9 => ?_) (fun c9 => ?_)
  · try simp only [decide_eq_true_eq, decide_eq_false_iff_not, Bool.not_eq_true', Bool.not_eq_false'] at c9
    refine WC.skip ?_
    refine WX.next ?_
    refine WC.seq ?_
    refine WC.block ?_
    refine WC.seq ?_
    refine WC.drawn (fun w' => Keeps w w' ∧ w'.heap[b3]? = some (.cells (atC f fa fc).toArray 34 (0, 0))) [] (by kernel_rfl) (by kernel_rfl) (m := 7) rfl ?_
    refine WH.free 0 rfl (by kernel_rfl) (by kernel_rfl) (by kernel_rfl) rfl (fun _ => (fun _ hw => ⟨hw.keeps, hw.it (own b3 _) (.head _)⟩)) (OV.move rfl) rfl (listed' := [true, false, false, false, false, false, false]) rfl ?_
    refine WH.free 1 rfl (by kernel_rfl) (by kernel_rfl) (by kernel_rfl) rfl (fun _ => (fun _ hw => ⟨hw.keeps, hw.it (own b3 _) (.head _)⟩)) (OV.move rfl) rfl (listed' := [true, true, false, false, false, false, false]) rfl ?_
    obtain ⟨q1, t1, rfl, ht1, hm1, hg1, hc1⟩ := hr1.get (i := i) (by omega)
    refine WH.free 2 rfl (by kernel_rfl) (by kernel_rfl) (by kernel_rfl) rfl (fun _ => (fun _ hw => ⟨hw.keeps, hw.it (own b3 _) (.head _)⟩)) ((OV.indexSlice rfl rfl T.u24 T.z36 (by omega)).cast (u := .pointer (some (q1.add (i * 6)))) (by rw [Int.toNat_natCast])) rfl (listed' := [true, true, true, false, false, false, false]) rfl ?_
    refine WH.free 3 rfl (by kernel_rfl) (by kernel_rfl) (by kernel_rfl) rfl (fun _ => (fun _ hw => ⟨hw.keeps, hw.it (own b3 _) (.head _)⟩)) ((OV.fieldAddrA (off := 0) rfl T.u36 rfl).cast (u := .pointer (some (q1.add (i * 6)))) (by rw [addr_add0])) rfl (listed' := [true, true, true, true, false, false, false]) rfl ?_
    refine WH.take 4 rfl (by kernel_rfl) (by kernel_rfl) (by kernel_rfl) (by kernel_rfl) (fun _ hw => ⟨hw.keeps, hw.it (own b3 _) (.head _)⟩) (OV.loadN (cs := agC t1.y) rfl T.u34 rfl T.z34 (fun _ hw j v hj => hw.1 _ _ (hc1 j v (ig_left hj)))) rfl (listed' := [true, true, true, true, true, false, false]) rfl ?_
    refine WH.take 5 rfl (by kernel_rfl) (by kernel_rfl) (by kernel_rfl) (by kernel_rfl) (fun _ hw => ⟨hw.keeps, hw.it (own b3 _) (.head _)⟩) (OV.loadN (cs := atC f fa fc) rfl T.u34 rfl T.z34 (fun _ hw j v hj => by rw [add_off]; exact heap_part hw.2 (o := 0) (cs' := atC f fa fc) rfl j v hj)) rfl (listed' := [true, true, true, true, true, true, false]) rfl ?_
    refine WH.only 6 rfl (by kernel_rfl) (listed' := [true, true, true, true, true, true, true]) rfl (fl' := false) rfl ?_
    refine WL.call0 (v := .bool (decide (t1.y.x = f))) (by kernel_rfl) rfl rfl (fun w' hw' => sameAtom_calls t1.y.x f t1.y.a fa t1.y.c fc (hb _ hm1) hf w' (hg1.keeps hw'.keeps) (hr2.keeps hw'.keeps)) ?_
    refine WL.nil ?_
    refine WX.contD (by kernel_rfl) (fun _ => (fun _ hw => ⟨hw.keeps, hw.it (own b3 _) (.head _)⟩)) ?_
    refine WH.done (by kernel_rfl) ?_
    refine WX.next ?_
    refine WC.cond rfl (fun c18 => ?_) (fun c18 => ?_)
    · try simp only [decide_eq_true_eq, decide_eq_false_iff_not, Bool.not_eq_true', Bool.not_eq_false'] at c18
      refine WC.seq ?_
      refine WC.region ?_
      refine WL.val (OV.move rfl) rfl ?_
      refine WL.val (OV.assign rfl) rfl ?_
      refine WL.nil ?_
      refine WX.next ?_
      refine WC.ret ?_
      refine WX.block_ret ?_
      refine WX.then_ret ?_
      refine WX.then_ret ?_
      refine WX.block_ret ?_
      refine WX.then_ret ?_
      exact WX.ret1 rfl rfl rfl (fun w' hw => ⟨by rw [placeI_at (i := i) (by rw [List.getElem?_map, ht1]; exact congrArg some (by simpa using c18)) hnf], hw.fr⟩)
    · try simp only [decide_eq_true_eq, decide_eq_false_iff_not, Bool.not_eq_true', Bool.not_eq_false'] at c18
      refine WC.skip ?_
      refine WX.block_normal ?_
      refine WX.next ?_
      refine WC.region ?_
      refine WL.val (OV.move rfl) rfl ?_
      refine WL.val (OV.addN (j := 1) rfl rfl (by omega)) rfl ?_
      refine WL.val (OV.assign rfl) rfl ?_
      refine WL.nil ?_
      have hg : ¬ t1.y.x = f := by simpa using c18
      exact WX.round1 (i + 1) ⟨rfl, rfl, rfl, trivial⟩ (fun w' hw => ⟨⟨by omega, fun j hj => by
        rcases Nat.lt_or_ge j i with h | h
        · exact hnf j h
        · rw [show j = i by omega, List.getElem?_map, ht1]
          exact fun e => hg (Option.some.inj e)⟩, hw⟩) (by show ls.length - (i + 1) < ls.length - i; omega)
  · try simp only [decide_eq_true_eq, decide_eq_false_iff_not, Bool.not_eq_true', Bool.not_eq_false'] at c9
    refine WC.exit ?_
    refine WX.then_exit ?_
    refine WX.then_exit ?_
    refine WX.block_hit ?_
    refine WX.next ?_
    refine WC.seq ?_
    refine WC.region ?_
    refine WL.val (OV.assign rfl) rfl ?_
    refine WL.nil ?_
    refine WX.next ?_
    refine WC.ret ?_
    have hno : f ∉ xsI ls := fun hm => by
      obtain ⟨j, hj⟩ := List.mem_iff_getElem?.1 hm
      have := (List.getElem?_eq_some_iff.1 hj).1
      simp only [List.length_map] at this
      exact hnf j (by omega) hj
    exact WX.ret1 rfl rfl rfl (fun w' hw => ⟨by rw [placeI_not hno], hw.fr⟩)

set_option maxRecDepth 10000 in
theorem rises_calls (ls : List AG) (a1 : Option Addr) (c1 : Nat) (h1 : ls.length ≤ 1099511627776) (hb : ∀ y ∈ ls, y.x.args.length ≤ 1099511627776) (hup : ∀ i x y, (ls.map AG.x)[i]? = some x → (ls.map AG.x)[i + 1]? = some y → cmpA x y < 0) (w : World) (hr1 : RA w a1 ls) : Calls Tryz.prog 15 #[.slice a1 ls.length c1] w fun e w' => e = .returned (.bool true) ∧ Fr0 w w' := by
  refine enterS (args := [.slice a1 ls.length c1]) (fun _ => False) Tryz.func15 rfl Tryz.ntmps15 rfl rfl ?_
  refine WC.seq ?_
  refine WC.region ?_
  refine WL.val (OV.assign rfl) rfl ?_
  refine WL.nil ?_
  refine WX.next ?_
  refine WC.seq ?_
  refine WC.seq ?_
  refine WC.region ?_
  refine WL.val (OV.assign rfl) rfl ?_
  refine WL.nil ?_
  refine WX.next ?_
  refine WC.block ?_
  refine WC.loop1 (fun (i : Nat) => [(0, .slice a1 ls.length c1), (3, .int .i64 (i : Int))])
      (fun i w' => 1 ≤ i ∧ Sat w (fun _ => False) (fun b => b < w.heap.size) w ([]) w')
      (fun i => ls.length - i) 1 ⟨rfl, rfl, trivial⟩ (fun w' hw => ⟨by omega, hw⟩) ?_
  intro i
  refine WC.pure (fun hi => ?_)
  refine WC.seq ?_
  refine WC.seq ?_
  refine WC.region ?_
  refine WL.val (OV.move rfl) rfl ?_
  refine WL.val (OV.move rfl) rfl ?_
  first
  | (refine WL.val (OV.lenSlice rfl T.u27) rfl ?_)
  | (refine WL.val (OV.lenStr rfl T.u27) rfl ?_)
  refine WL.val (OV.lss rfl rfl) rfl ?_
  refine WL.nil ?_
  refine WX.next ?_
  refine WC.cond rfl (fun c7 => ?_) (fun c7 => ?_)
  · try simp only [decide_eq_true_eq, decide_eq_false_iff_not, Bool.not_eq_true', Bool.not_eq_false'] at c7
    refine WC.skip ?_
    refine WX.next ?_
    refine WC.seq ?_
    refine WC.block ?_
    refine WC.seq ?_
    refine WC.quietS (by kernel_rfl) (by kernel_rfl) (m := 11) rfl ?_
    refine WH.free 0 rfl (by kernel_rfl) (by kernel_rfl) (by kernel_rfl) rfl (fun _ => (fun _ h => h)) (OV.move rfl) rfl (listed' := [true, false, false, false, false, false, false, false, false, false, false]) rfl ?_
    refine WH.free 1 rfl (by kernel_rfl) (by kernel_rfl) (by kernel_rfl) rfl (fun _ => (fun _ h => h)) (OV.move rfl) rfl (listed' := [true, true, false, false, false, false, false, false, false, false, false]) rfl ?_
    first
    | (refine WH.free 2 rfl (by kernel_rfl) (by kernel_rfl) (by kernel_rfl) rfl (fun _ => (fun _ h => h)) (OV.subN (j := 1) rfl rfl (wrap_i64 (by omega)) (by omega)) rfl (listed' := [true, true, true, false, false, false, false, false, false, false, false]) rfl ?_)
    | (refine WH.free 2 rfl (by kernel_rfl) (by kernel_rfl) (by kernel_rfl) rfl (fun _ => (fun _ h => h)) (OV.subI rfl rfl (by omega)) rfl (listed' := [true, true, true, false, false, false, false, false, false, false, false]) rfl ?_)
    | (refine WH.free 2 rfl (by kernel_rfl) (by kernel_rfl) (by kernel_rfl) rfl (fun _ => (fun _ h => h)) (OV.sub rfl rfl) rfl (listed' := [true, true, true, false, false, false, false, false, false, false, false]) rfl ?_)
    obtain ⟨q1, t1, hq1, ht1, hm1, hg1, hc1⟩ := hr1.get (i := i - 1) (by omega)
    obtain ⟨q2, t2, hq2, ht2, hm2, hg2, hc2⟩ := hr1.get (i := i) (by omega)
    refine WH.free 3 rfl (by kernel_rfl) (by kernel_rfl) (by kernel_rfl) rfl (fun _ => (fun _ h => h)) ((OV.indexSlice (show _ = some (Value.slice (some q1) ls.length c1) by rw [← hq1]; rfl) rfl T.u27 T.z34 (by omega)).cast (u := .pointer (some (q1.add ((i - 1) * 5)))) (by rw [Int.toNat_natCast])) rfl (listed' := [true, true, true, true, false, false, false, false, false, false, false]) rfl ?_
    refine WH.take 4 rfl (by kernel_rfl) (by kernel_rfl) (by kernel_rfl) (by kernel_rfl) (fun _ h => h) (OV.loadN (cs := agC t1) rfl T.u34 rfl T.z34 (fun _ hw j v hj => hw.keeps _ _ (hc1 j v hj))) rfl (listed' := [true, true, true, true, true, false, false, false, false, false, false]) rfl ?_
    refine WH.free 5 rfl (by kernel_rfl) (by kernel_rfl) (by kernel_rfl) rfl (fun _ => (fun _ h => h)) (OV.move rfl) rfl (listed' := [true, true, true, true, true, true, false, false, false, false, false]) rfl ?_
    refine WH.free 6 rfl (by kernel_rfl) (by kernel_rfl) (by kernel_rfl) rfl (fun _ => (fun _ h => h)) (OV.move rfl) rfl (listed' := [true, true, true, true, true, true, true, false, false, false, false]) rfl ?_
    refine WH.free 7 rfl (by kernel_rfl) (by kernel_rfl) (by kernel_rfl) rfl (fun _ => (fun _ h => h)) ((OV.indexSlice (show _ = some (Value.slice (some q2) ls.length c1) by rw [← hq2]; rfl) rfl T.u27 T.z34 (by omega)).cast (u := .pointer (some (q2.add (i * 5)))) (by rw [Int.toNat_natCast])) rfl (listed' := [true, true, true, true, true, true, true, true, false, false, false]) rfl ?_
    refine WH.take 8 rfl (by kernel_rfl) (by kernel_rfl) (by kernel_rfl) (by kernel_rfl) (fun _ h => h) (OV.loadN (cs := agC t2) rfl T.u34 rfl T.z34 (fun _ hw j v hj => hw.keeps _ _ (hc2 j v hj))) rfl (listed' := [true, true, true, true, true, true, true, true, true, false, false]) rfl ?_
    refine WH.only 9 rfl (by kernel_rfl) (listed' := [true, true, true, true, true, true, true, true, true, true, false]) rfl (fl' := false) rfl ?_
    refine WL.call0 (v := .int .i64 (cmpA t1.x t2.x)) (by kernel_rfl) rfl rfl (fun w' hw' => cmpA_calls t1.x t2.x t1.a t2.a t1.c t2.c (hb _ hm1) (hb _ hm2) w' (hg1.keeps hw'.keeps) (hg2.keeps hw'.keeps)) ?_
    refine WL.nil ?_
    refine WX.contD (by kernel_rfl) (fun _ => (fun _ h => h)) ?_
    refine WH.free 10 rfl (by kernel_rfl) (by kernel_rfl) (by kernel_rfl) rfl (fun _ => (fun _ h => h)) (OV.geq rfl rfl) rfl (listed' := [true, true, true, true, true, true, true, true, true, true, true]) rfl ?_
    refine WH.done (by kernel_rfl) ?_
    refine WX.next ?_
    refine WC.condF (show _ = some (Value.bool false) from by exact congrArg (fun b => some (Value.bool b)) (by have h := hup (i - 1) t1.x t2.x (by rw [List.getElem?_map, ht1]; rfl) (by rw [List.getElem?_map, show i - 1 + 1 = i by omega, ht2]; rfl); rw [decide_eq_false]; omega)) ?_
    refine WC.skip ?_
    refine WX.block_normal ?_
    refine WX.next ?_
    refine WC.region ?_
    refine WL.val (OV.move rfl) rfl ?_
    refine WL.val (OV.addN (j := 1) rfl rfl (by omega)) rfl ?_
    refine WL.val (OV.assign rfl) rfl ?_
    refine WL.nil ?_
    exact WX.round1 (i + 1) ⟨rfl, rfl, trivial⟩ (fun w' hw => ⟨by omega, hw⟩) (by show ls.length - (i + 1) < ls.length - i; omega)
  · try simp only [decide_eq_true_eq, decide_eq_false_iff_not, Bool.not_eq_true', Bool.not_eq_false'] at c7
    refine WC.exit ?_
    refine WX.then_exit ?_
    refine WX.then_exit ?_
    refine WX.block_hit ?_
    refine WX.next ?_
    refine WC.seq ?_
    refine WC.region ?_
    refine WL.val (OV.assign rfl) rfl ?_
    refine WL.nil ?_
    refine WX.next ?_
    refine WC.ret ?_
    exact WX.ret1 rfl rfl rfl (fun w' hw => ⟨rfl, hw.fr⟩)

end Go.Proofs.YtgiiifadbnpfkaaGreatDoor

namespace Go.Proofs.YtgiiifadbnpfkaaGreatDoor
open Go Go.Hw
set_option linter.unusedSimpArgs false
set_option linter.unusedVariables false
/-! ### A script, as it was handed in -/
structure OpB where
  kind : Int
  y : AG
  n : Int
  other : Bool
def opB (o : OpB) : List Value := .int .i64 o.kind :: (agC o.y ++ [.int .i64 o.n, .bool o.other])
theorem opB_len (o : OpB) : (opB o).length = 8 := rfl
structure ROp (w : World) (a : Option Addr) (os : List OpB) : Prop where
  nil : a = none → os.length = 0
  at_ : ∀ q, a = some q → ∀ i o, os[i]? = some o → ∀ j v, (opB o)[j]? = some v → w.cell? ((q.add (i * 8)).add j) = some v
  args : ∀ o ∈ os, RT w o.y.a o.y.x.args
theorem ROp.keeps {w w' : World} {a : Option Addr} {os : List OpB} (h : ROp w a os) (k : Keeps w w') : ROp w' a os := ⟨h.nil, fun q hq i t ht j v hv => k _ _ (h.at_ q hq i t ht j v hv), fun y hy => (h.args y hy).keeps k⟩
theorem ROp.get {w : World} {a : Option Addr} {os : List OpB} (h : ROp w a os) {i : Nat} (hi : i < os.length) : ∃ q o, a = some q ∧ os[i]? = some o ∧ o ∈ os ∧ RT w o.y.a o.y.x.args ∧ ∀ j v, (opB o)[j]? = some v → w.cell? ((q.add (i * 8)).add j) = some v := by
  cases a with
  | none => have := h.nil rfl; omega
  | some q => exact ⟨q, os[i], rfl, List.getElem?_eq_getElem hi, List.getElem_mem hi, h.args _ (List.getElem_mem hi), h.at_ q rfl i _ (List.getElem?_eq_getElem hi)⟩
/-- What the atoms of a script may be. -/
structure OBs (os : List OpB) : Prop where
  len : os.length ≤ 1048576
  args : ∀ o ∈ os, o.y.x.args.length ≤ 1099511627775
  name : ∀ o ∈ os, o.y.x.name.size ≤ 1099511627776
def Fis (is : List IG) : List (At × Nat) := is.map fun i => (i.y.x, i.p)
theorem Fis_fst (is : List IG) : (Fis is).map (·.1) = xsI is := by simp [Fis]
def turnI (i : IG) : IG := ⟨i.y, if i.p = 4 then 2 else 1⟩
theorem Fis_turn (is : List IG) : turnF (Fis is) = Fis (is.map turnI) := by simp [Fis, turnF, turnI]
def tuI (l : List IG) (i : Nat) : List IG := (l.take i).map turnI ++ l.drop i
theorem tuI_length (l : List IG) (i : Nat) : (tuI l i).length = l.length := by simp [tuI]; omega
theorem tuI_get {l : List IG} {i : Nat} {n : IG} (h : l[i]? = some n) : (tuI l i)[i]? = some n := by
  have hi := (List.getElem?_eq_some_iff.1 h).1
  rw [tuI, List.getElem?_append_right (by simp; omega)]
  simp [List.length_take, Nat.min_eq_left (Nat.le_of_lt hi), h]
theorem tuI_set {l : List IG} {i : Nat} {n : IG} (h : l[i]? = some n) : (tuI l i).set i (turnI n) = tuI l (i + 1) := by
  obtain ⟨hi, rfl⟩ := List.getElem?_eq_some_iff.1 h
  rw [tuI, tuI, List.set_append_right _ _ (by simp; omega)]
  simp only [List.length_map, List.length_take, Nat.min_eq_left (Nat.le_of_lt hi), Nat.sub_self]
  rw [List.drop_eq_getElem_cons hi, List.take_add_one, List.getElem?_eq_getElem hi, List.map_append, List.append_assoc]
  rfl
theorem tuI_same {l : List IG} {i : Nat} {n : IG} (h : l[i]? = some n) (ht : turnI n = n) : tuI l i = tuI l (i + 1) := by
  rw [← tuI_set h, ht]
  obtain ⟨hi, he⟩ := List.getElem?_eq_some_iff.1 (tuI_get h)
  rw [← he]; exact (List.set_getElem_self hi).symm
theorem tuI_all (l : List IG) : tuI l l.length = l.map turnI := by simp [tuI]
def cnI (l : List IG) : Nat := (l.filter fun i => decide (i.p = 4)).length
theorem cnI_le (l : List IG) (k : Nat) : cnI (l.take k) ≤ k := Nat.le_trans (List.length_filter_le _ _) (by rw [List.length_take]; omega)
theorem cnI_take {l : List IG} {i : Nat} {n : IG} (h : l[i]? = some n) : cnI (l.take (i + 1)) = cnI (l.take i) + if n.p = 4 then 1 else 0 := by
  rw [cnI, cnI, List.take_add_one, h, List.filter_append, List.length_append]
  congr 1
  by_cases h4 : n.p = 4 <;> simp [h4]
theorem n4_Fis (is : List IG) : n4F (Fis is) = cnI is := by
  unfold n4F Fis cnI
  rw [List.filter_map, List.length_map]
  rfl
theorem flat_set {α : Type} {en : α → List Value} {k : Nat} (hk : ∀ x, (en x).length = k) : ∀ (l : List α) (i j : Nat) (x y : α) (v : Value), l[i]? = some x → j < k → (en x).set j v = en y → (l.flatMap en).set (i * k + j) v = (l.set i y).flatMap en
  | [], _, _, _, _, _, h, _, _ => by simp at h
  | z :: l, 0, j, x, y, v, h, hj, he => by
    simp only [List.getElem?_cons_zero, Option.some.injEq] at h
    subst h
    rw [List.set_cons_zero, List.flatMap_cons, List.flatMap_cons, Nat.zero_mul, Nat.zero_add, List.set_append_left _ _ (by rw [hk]; exact hj), he]
  | z :: l, i + 1, j, x, y, v, h, hj, he => by
    rw [List.set_cons_succ, List.flatMap_cons, List.flatMap_cons, List.set_append_right _ _ (by rw [hk, Nat.add_mul]; omega), hk]
    rw [show (i + 1) * k + j - k = i * k + j by rw [Nat.add_mul]; omega, flat_set hk l i j x y v (by simpa using h) hj he]
theorem placeI_neg (l : List At) (f : At) : decide (placeI l f < 0) = decide (f ∉ l) := by
  by_cases h : f ∈ l
  · obtain ⟨i, hi, _⟩ := placeI_get h
    rw [hi, decide_eq_false (by omega), decide_eq_false (fun k => k h)]
  · rw [placeI_not h, decide_eq_true h]; rfl
theorem T.apIt : appB Tryz.prog 24 36 6 80 = true := by kernel_rfl
structure BI where
  g : BaseG
  a : Option Addr
  c : Nat
  is : List IG
/-- A base and the items that say where its facts must be. -/
structure BIok (z : BI) (k : Nat) : Prop where
  bs : BS z.g k (Fis z.is)
  part : ∀ i ∈ z.is, i.p = 1 ∨ i.p = 2 ∨ i.p = 4
  args : ∀ i ∈ z.is, i.y.x.args.length ≤ 8
  fct : ∀ i ∈ z.is, factB i.y.x = true

set_option maxRecDepth 10000 in
theorem built_calls (os : List OpB) (a : Option Addr) (c : Nat) (hO : OBs os) (w : World) (hN : NoneAt w) (hR : ROp w a os) : Calls Tryz.prog 11 #[.slice a os.length c] w fun e w' => ∃ z : BI, e = .returned (.tuple #[ptr z.g.p, .slice z.a z.is.length z.c, .bool true]) ∧ (BIok z os.length ∧ z.is.length ≤ os.length) ∧ Turns [] (rowIt z.a z.c z.is :: (argsA (z.is.map IG.y) ++ baseA z.g)) w w' := by
  refine enterS (args := [.slice a os.length c]) (fun _ => False) Tryz.func11 rfl Tryz.ntmps11 rfl rfl ?_
  refine WC.seq ?_
  refine WC.region ?_
  refine WL.val (OV.assign rfl) rfl ?_
  refine WL.val (OV.assign rfl) rfl ?_
  refine WL.val (OV.assign rfl) rfl ?_
  refine WL.nil ?_
  refine WX.next ?_
  refine WC.seq ?_
  refine WC.region ?_
  refine WL.callTA (ι := Nat × Nat) (vs := []) (vv := fun z => ptr z.1) (pp := fun _ => True) [] (AA := fun z => baseA ⟨z.1, none, none, 0, [], z.2, []⟩) rfl (by kernel_rfl) rfl rfl (fun w' hw' _ => (bnew_calls w').mono (fun en w'' ⟨p, rb, h1, h2⟩ => ⟨(p, rb), h1, trivial, h2⟩)) ?_
  rintro ⟨pg, rbg⟩ _
  obtain ⟨g0, eg0⟩ : ∃ g : BaseG, g = ⟨pg, none, none, 0, [], rbg, []⟩ := ⟨_, rfl⟩
  have bs0 : BS g0 0 [] := by rw [eg0]; exact new_bs _ _
  have hp0 : g0.p = pg := by rw [eg0]
  refine WL.focus (ow' := baseA g0) (List.Perm.of_eq (by rw [List.append_nil]; exact congrArg baseA eg0)) ?_
  refine WL.val (OV.assign rfl) rfl ?_
  refine WL.nil ?_
  refine WX.next ?_
  refine WC.seq ?_
  refine WC.seq ?_
  refine WC.region ?_
  refine WL.val (OV.move rfl) rfl ?_
  refine WL.val (OV.eqlPN T.u23 rfl rfl) rfl ?_
  refine WL.nil ?_
  refine WX.next ?_
  refine WC.condF rfl ?_
  refine WC.skip ?_
  refine WX.next ?_
  refine WC.seq ?_
  refine WC.region ?_
  refine WL.val (OV.assign rfl) rfl ?_
  refine WL.nil ?_
  refine WX.next ?_
  refine WC.seq ?_
  refine WC.seq ?_
  refine WC.region ?_
  refine WL.val (OV.assign rfl) rfl ?_
  refine WL.nil ?_
  refine WX.next ?_
  refine WC.block ?_
  refine WC.weak (S' := Sat w (fun _ => False) (fun b => b < w.heap.size) w (rowIt none 0 [] :: ([] ++ baseA g0))) (fun w' hw => (hw.rowNil 36 6).perm (List.Perm.of_eq (by first | rfl | (simp; rfl)))) ?_
  refine WC.loop2 (fun (i : Nat) (z : BI) => [(0, .slice a os.length c), (5, ptr pg), (6, .slice z.a z.is.length z.c), (7, .int .i64 (i : Int))])
      (fun i z w' => (i ≤ os.length ∧ BIok z i ∧ z.g.p = pg ∧ z.is.length ≤ i) ∧ Sat w (fun _ => False) (fun b => b < w.heap.size) w (rowIt z.a z.c z.is :: (argsA (z.is.map IG.y) ++ baseA z.g)) w')
      (fun i _ => os.length - i) 0 ⟨g0, none, 0, []⟩ ⟨rfl, rfl, rfl, rfl, trivial⟩ (fun w' hw => ⟨⟨by omega, ⟨bs0, (fun i hi => by cases hi), (fun i hi => by cases hi), (fun i hi => by cases hi)⟩, hp0, Nat.le_refl _⟩, hw⟩) ?_
  intro i z
  refine WC.pure (fun hi => ?_)
  obtain ⟨hi, hz, hzp, hzl⟩ := hi
  have hol0 := hO.len
  refine WC.seq ?_
  refine WC.seq ?_
  refine WC.region ?_
  refine WL.val (OV.move rfl) rfl ?_
  refine WL.val (OV.move rfl) rfl ?_
  first
  | (refine WL.val (OV.lenSlice rfl T.u22) rfl ?_)
  | (refine WL.val (OV.lenStr rfl T.u22) rfl ?_)
  refine WL.val (OV.lss rfl rfl) rfl ?_
  refine WL.nil ?_
  refine WX.next ?_
  refine WC.cond rfl (fun c22 => ?_) (fun c22 => ?_)
  · try simp only [decide_eq_true_eq, decide_eq_false_iff_not, Bool.not_eq_true', Bool.not_eq_false'] at c22
    refine WC.skip ?_
    refine WX.next ?_
    refine WC.seq ?_
    refine WC.block ?_
    refine WC.seq ?_
    refine WC.region ?_
    refine WL.val (OV.move rfl) rfl ?_
    refine WL.val (OV.move rfl) rfl ?_
    obtain ⟨q0, o, hq0, hoi, hom, hra, hrc⟩ := hR.get (i := i) (by omega)
    have hol := hO.args o hom
    have hon := hO.name o hom
    refine WL.val ((OV.indexSlice (show _ = some (Value.slice (some q0) os.length c) by rw [← hq0]; rfl) rfl T.u22 T.z65 (by omega)).cast (u := .pointer (some (q0.add (i * 8)))) (by rw [Int.toNat_natCast])) rfl ?_
    refine WL.val (OV.loadN (cs := opB o) rfl T.u65 rfl T.z65 (fun _ hw j v hj => hw.keeps _ _ (hrc j v hj))) rfl ?_
    refine WL.alloc T.zr65 rfl ?_
    intro bb8
    refine WL.storeAll (vs := opB o) rfl rfl rfl T.z65 rfl ?_
    refine WL.nil ?_
    refine WX.next ?_
    refine WC.seq ?_
    refine WC.region ?_
    first
    | (refine WL.val (OV.fieldAddr0 (off := 0) rfl T.u65 rfl) rfl ?_)
    | (refine WL.val (OV.fieldAddr (off := 0) rfl T.u65 rfl) rfl ?_)
    refine WL.val (OV.load1 (v := .int .i64 o.kind) rfl T.u3 rfl (fun _ hw => (cell_at (hw.it _ (.head _)) (o := 0) rfl).1)) rfl ?_
    refine WL.nil ?_
    refine WX.next ?_
    refine WC.block ?_
    refine WC.seq ?_
    refine WC.region ?_
    refine WL.val (OV.eql rfl rfl) rfl ?_
    refine WL.val (OV.assign rfl) rfl ?_
    refine WL.nil ?_
    refine WX.next ?_
    refine WC.cond rfl (fun c31 => ?_) (fun c31 => ?_)
    · try simp only [decide_eq_true_eq, decide_eq_false_iff_not, Bool.not_eq_true', Bool.not_eq_false'] at c31
      refine WC.seq ?_
      refine WC.region ?_
      refine WL.val (OV.move rfl) rfl ?_
      first
      | (refine WL.val (OV.fieldAddr0 (off := 1) rfl T.u65 rfl) rfl ?_)
      | (refine WL.val (OV.fieldAddr (off := 1) rfl T.u65 rfl) rfl ?_)
      refine WL.val (OV.loadN (cs := agC o.y) rfl T.u34 rfl T.z34 (fun _ hw j v hj => by rw [add_off]; exact own_part hw (.head _) (o := 1) (cs' := agC o.y) rfl j v hj)) rfl ?_
      refine WL.focus (ow' := baseA z.g ++ (own bb8 (.cells (opB o).toArray 65 (0, 0)) :: rowIt z.a z.c z.is :: argsA (z.is.map IG.y))) (by exact perm_cat [[own bb8 (.cells (opB o).toArray 65 (0, 0)), rowIt z.a z.c z.is], argsA (z.is.map IG.y), baseA z.g] [2, 0, 1] (by decide) rfl) ?_
      refine WL.callTA (ι := BaseG) (vs := [ptr z.g.p, atV o.y.x o.y.a o.y.c]) (vv := fun _ => .tuple #[.bool (factB o.y.x && decide (o.y.x ∉ (Fis z.is).map (·.1))), .int .i64 (if factB o.y.x = true then 0 else 81)]) (pp := fun g' => BS g' (i + 1) (addF (Fis z.is) o.y.x) ∧ g'.p = z.g.p) (baseA z.g) (AA := fun g' => baseA g') rfl (by kernel_rfl) (by rw [hzp]; rfl) rfl (fun w' hw' hH => (badd_bs z.g i (Fis z.is) hz.bs (by have := hO.len; omega) o.y.x o.y.a o.y.c hol hon w' (hN.keeps hw'.keeps) (Sat.sepI hw' hN.lt) (hra.keeps hw'.keeps) (fun q hq hl => Sat.sepI hw' (hra.lt hq hl)) hH)) ?_
      rintro g1 ⟨bs1, hp1⟩
      have hp1 : g1.p = pg := by rw [hp1, hzp]
      refine WL.val (OV.move rfl) rfl ?_
      refine WL.val (OV.extract rfl rfl) rfl ?_
      refine WL.val (OV.extract rfl rfl) rfl ?_
      refine WL.val (OV.assign rfl) rfl ?_
      refine WL.val (OV.assign rfl) rfl ?_
      refine WL.nil ?_
      refine WX.next ?_
      refine WC.seq ?_
      refine WC.region ?_
      first
      | (refine WL.val (OV.fieldAddr0 (off := 1) rfl T.u65 rfl) rfl ?_)
      | (refine WL.val (OV.fieldAddr (off := 1) rfl T.u65 rfl) rfl ?_)
      refine WL.val (OV.loadN (cs := agC o.y) rfl T.u34 rfl T.z34 (fun _ hw j v hj => by rw [add_off]; exact own_part hw (List.mem_append_right _ (.head _)) (o := 1) (cs' := agC o.y) rfl j v hj)) rfl ?_
      refine WL.call0 (v := .bool (factB o.y.x)) (by kernel_rfl) rfl rfl (fun w' hw' => fact_calls o.y.x o.y.a o.y.c (by omega) hon w' (hN.keeps hw'.keeps) (hra.keeps hw'.keeps)) ?_
      refine WL.val (OV.assign rfl) rfl ?_
      refine WL.nil ?_
      refine WX.next ?_
      refine WC.seq ?_
      refine WC.region ?_
      refine WL.val (OV.move rfl) rfl ?_
      refine WL.val (OV.move rfl) rfl ?_
      refine WL.split (t := 44) rfl (fun g44 => ?_) (fun g44 => ?_)
      · try simp only [decide_eq_true_eq, decide_eq_false_iff_not, Bool.not_eq_true', Bool.not_eq_false'] at g44
        refine WL.go (b := true) rfl rfl rfl ?_
        refine WL.val (OV.move rfl) rfl ?_
        refine WL.go (b := true) rfl rfl rfl ?_
        first
        | (refine WL.val (OV.fieldAddr0 (off := 1) rfl T.u65 rfl) rfl ?_)
        | (refine WL.val (OV.fieldAddr (off := 1) rfl T.u65 rfl) rfl ?_)
        refine WL.go (b := true) rfl rfl rfl ?_
        refine WL.val (OV.loadN (cs := agC o.y) rfl T.u34 rfl T.z34 (fun _ hw j v hj => by rw [add_off]; exact own_part hw (List.mem_append_right _ (.head _)) (o := 1) (cs' := agC o.y) rfl j v hj)) rfl ?_
        refine WL.go (b := true) rfl rfl rfl ?_
        refine WL.call0 (v := .int .i64 (placeI (xsI z.is) o.y.x)) (vs := [.slice z.a z.is.length z.c, atV o.y.x o.y.a o.y.c]) (by kernel_rfl) rfl rfl (fun w' hw' => place_calls z.is z.a z.c o.y.x o.y.a o.y.c (by omega) (fun i hi => by have := hz.args i hi; omega) (by omega) w' (RIt.of_row hw' (fun i hi => List.mem_append_right _ (.tail _ (by first | exact hi | (unfold itsA at hi; exact hi))))) (hra.keeps hw'.keeps)) ?_
        refine WL.go (b := true) rfl rfl rfl ?_
        refine WL.val (OV.lss rfl rfl) rfl ?_
        refine WL.val (OV.pickT rfl rfl) rfl ?_
        refine WL.val (OV.assign rfl) rfl ?_
        refine WL.nil ?_
        refine WX.next ?_
        refine WC.seq ?_
        refine WC.seq ?_
        refine WC.region ?_
        refine WL.val (OV.move rfl) rfl ?_
        refine WL.val (OV.move rfl) rfl ?_
        refine WL.val ((OV.neqB T.u4 rfl rfl).cast (u := .bool false) (by rw [Fis_fst, placeI_neg]; simp [g44])) rfl ?_
        refine WL.val (OV.move rfl) rfl ?_
        refine WL.known (t := 54) (b := false) rfl (by rfl) ?_
        refine WL.go (b := false) rfl rfl rfl ?_
        refine WL.val (OV.move rfl) rfl ?_
        refine WL.go (b := false) rfl rfl rfl ?_
        refine WL.val ((OV.eql rfl rfl).cast (u := .bool true) (by simp [g44])) rfl ?_
        refine WL.go (b := false) rfl rfl rfl ?_
        refine WL.val (OV.move rfl) rfl ?_
        refine WL.go (b := false) rfl rfl rfl ?_
        refine WL.val ((OV.neqB T.u4 rfl rfl).cast (u := .bool false) (by simp [g44])) rfl ?_
        refine WL.val (OV.pickF rfl rfl) rfl ?_
        refine WL.val (OV.move rfl) rfl ?_
        refine WL.known (t := 60) (b := false) rfl (by rfl) ?_
        refine WL.go (b := false) rfl rfl rfl ?_
        refine WL.val (OV.move rfl) rfl ?_
        refine WL.go (b := false) rfl rfl rfl ?_
        refine WL.val (OV.not rfl) rfl ?_
        refine WL.go (b := false) rfl rfl rfl ?_
        refine WL.val (OV.move rfl) rfl ?_
        refine WL.known (t := 63) (b := false) rfl (by simp [g44]) ?_
        refine WL.skip (b := false) rfl rfl rfl rfl ?_
        refine WL.skip (b := false) rfl rfl rfl rfl ?_
        refine WL.go (b := false) rfl rfl rfl ?_
        refine WL.val (OV.pickF rfl rfl) rfl ?_
        refine WL.val (OV.pickF rfl rfl) rfl ?_
        refine WL.nil ?_
        refine WX.next ?_
        refine WC.condF (show _ = some (Value.bool false) from by rfl) ?_
        refine WC.skip ?_
        refine WX.next ?_
        refine WC.seq ?_
        refine WC.region ?_
        refine WL.val (OV.move rfl) rfl ?_
        refine WL.nil ?_
        refine WX.next ?_
        refine WC.cond rfl (fun c68 => ?_) (fun c68 => ?_)
        · try simp only [decide_eq_true_eq, decide_eq_false_iff_not, Bool.not_eq_true', Bool.not_eq_false'] at c68
          refine WC.seq ?_
          refine WC.focus (ow' := own bb8 (.cells (opB o).toArray 65 (0, 0)) :: rowIt z.a z.c z.is :: (argsA (z.is.map IG.y) ++ baseA g1)) (by exact perm_cat [baseA g1, [own bb8 (.cells (opB o).toArray 65 (0, 0)), rowIt z.a z.c z.is], argsA (z.is.map IG.y)] [1, 2, 0] (by decide) rfl) ?_
          refine WC.region ?_
          first
          | (refine WL.val (OV.fieldAddr0 (off := 1) rfl T.u65 rfl) rfl ?_)
          | (refine WL.val (OV.fieldAddr (off := 1) rfl T.u65 rfl) rfl ?_)
          first
          | (refine WL.val (OV.fieldAddr0 (off := 0) rfl T.u34 rfl) rfl ?_)
          | (refine WL.val (OV.fieldAddr (off := 0) rfl T.u34 rfl) rfl ?_)
          refine WL.val (OV.loadN (cs := tmC o.y.x.b) rfl T.u31 rfl T.z31 (fun _ hw j v hj => by rw [add_off]; exact own_part hw (.head _) (o := 1) (cs' := tmC o.y.x.b) rfl j v hj)) rfl ?_
          first
          | (refine WL.val (OV.fieldAddr0 (off := 1) rfl T.u65 rfl) rfl ?_)
          | (refine WL.val (OV.fieldAddr (off := 1) rfl T.u65 rfl) rfl ?_)
          first
          | (refine WL.val (OV.fieldAddr0 (off := 3) rfl T.u34 rfl) rfl ?_)
          | (refine WL.val (OV.fieldAddr (off := 3) rfl T.u34 rfl) rfl ?_)
          refine WL.val (OV.load1 (v := .string o.y.x.name) rfl T.u9 rfl (fun _ hw => (cell_at (hw.it _ (.head _)) (o := 4) rfl).1)) rfl ?_
          refine WL.val (OV.buildStruct (xs := [(0, .tmp 71), (1, .tmp 74)]) (pl := [(0, 3), (3, 1), (4, 1)]) (cs := atC ⟨o.y.x.b, o.y.x.name, []⟩ none 0) T.u34 T.zr34 (by kernel_rfl) rfl (fill_cons (us := tmC o.y.x.b) rfl rfl (Nat.le_of_ble_eq_true rfl) (fill_cons (us := [_]) rfl rfl (Nat.le_of_ble_eq_true rfl) rfl))) rfl ?_
          refine WL.alloc T.zr34 rfl ?_
          intro b13
          refine WL.storeAll (vs := atC ⟨o.y.x.b, o.y.x.name, []⟩ none 0) rfl rfl rfl T.z34 rfl ?_
          refine WL.nil ?_
          refine WX.next ?_
          refine WC.seq ?_
          refine WC.region ?_
          first
          | (refine WL.val (OV.fieldAddr0 (off := 4) rfl T.u34 rfl) rfl ?_)
          | (refine WL.val (OV.fieldAddr (off := 4) rfl T.u34 rfl) rfl ?_)
          refine WL.val (OV.load1 (v := .slice none 0 0) rfl T.u32 rfl (fun _ hw => (cell_at (hw.it _ (.head _)) (o := 4) rfl).1)) rfl ?_
          first
          | (refine WL.val (OV.fieldAddr0 (off := 1) rfl T.u65 rfl) rfl ?_)
          | (refine WL.val (OV.fieldAddr (off := 1) rfl T.u65 rfl) rfl ?_)
          first
          | (refine WL.val (OV.fieldAddr0 (off := 4) rfl T.u34 rfl) rfl ?_)
          | (refine WL.val (OV.fieldAddr (off := 4) rfl T.u34 rfl) rfl ?_)
          refine WL.val (OV.load1 (v := .slice o.y.a o.y.x.args.length o.y.c) rfl T.u32 rfl (fun _ hw => (cell_at (hw.it _ (.tail _ (.head _))) (o := 5) rfl).1)) rfl ?_
          refine WL.weak (S' := Sat w (fun _ => False) (fun b => b < w.heap.size) w (row 31 3 none 0 0 [] :: own b13 (.cells (atC ⟨o.y.x.b, o.y.x.name, []⟩ none 0).toArray 34 (0, 0)) :: own bb8 (.cells (opB o).toArray 65 (0, 0)) :: rowIt z.a z.c z.is :: (argsA (z.is.map IG.y) ++ baseA g1))) (fun w' hw => hw.rowNil 31 3) ?_
          refine WL.append (news := o.y.x.args.flatMap tmC) rfl rfl T.apT (fun _ _ => Src.of_rt hra.nil (fun _ hw => hra.keeps hw.keeps)) (tms_one _) ⟨by omega, by unfold maxLen; omega⟩ rfl ?_
          intro a81 c81
          simp only [Nat.zero_add, List.nil_append]
          first
          | (refine WL.val (OV.fieldAddr0 (off := 4) rfl T.u34 rfl) rfl ?_)
          | (refine WL.val (OV.fieldAddr (off := 4) rfl T.u34 rfl) rfl ?_)
          refine WL.focus perm1 (WL.store1 (o := 4) rfl rfl rfl T.z32 (by show 4 < 5; omega) ?_)
          refine WL.nil ?_
          refine WX.next ?_
          refine WC.region ?_
          refine WL.val (OV.move rfl) rfl ?_
          refine WL.val (OV.loadN (cs := atC ⟨o.y.x.b, o.y.x.name, o.y.x.args⟩ a81 c81) rfl T.u34 rfl T.z34 (fun _ hw j v hj => by rw [add_off, Nat.zero_add]; exact own_cells hw (.head _) j v hj)) rfl ?_
          refine WL.val (OV.buildStruct (xs := [(0, .tmp 84), (1, .const (.int .i64 4))]) (pl := [(0, 5), (5, 1)]) (cs := igC ⟨⟨o.y.x, a81, c81⟩, 4⟩) T.u36 T.zr36 (by kernel_rfl) rfl (fill_cons (us := atC ⟨o.y.x.b, o.y.x.name, o.y.x.args⟩ a81 c81) rfl rfl (Nat.le_of_ble_eq_true rfl) (fill_cons (us := [_]) rfl rfl (Nat.le_of_ble_eq_true rfl) rfl))) rfl ?_
          refine WL.buildSliceA (cs := igC ⟨⟨o.y.x, a81, c81⟩, 4⟩) T.u24 T.z36 T.zr36 rfl rfl (by omega) (by omega) rfl ?_
          intro b86
          refine WL.focus (ow' := rowIt z.a z.c z.is :: own b86 (.cells (igC ⟨⟨o.y.x, a81, c81⟩, 4⟩).toArray 36 (0, 0)) :: own b13 (.cells (atC ⟨o.y.x.b, o.y.x.name, o.y.x.args⟩ a81 c81).toArray 34 (0, 0)) :: rowT a81 c81 o.y.x.args :: own bb8 (.cells (opB o).toArray 65 (0, 0)) :: (argsA (z.is.map IG.y) ++ baseA g1)) (perm_pick [_, _, _, _, _] [4, 0, 1, 2, 3] (by decide) rfl) ?_
          refine WL.append (news := igC ⟨⟨o.y.x, a81, c81⟩, 4⟩) rfl rfl T.apIt (fun _ _ => own_srcN (.tail _ (.head _)) rfl) (igC_one _) ⟨by omega, by unfold maxLen; omega⟩ rfl ?_
          intro a87 c87
          refine WL.val (OV.assign rfl) rfl ?_
          refine WL.nil ?_
          refine WX.block_normal ?_
          refine WX.block_normal ?_
          refine WX.next ?_
          refine WC.region ?_
          refine WL.val (OV.move rfl) rfl ?_
          refine WL.val (OV.addN (j := 1) rfl rfl (by omega)) rfl ?_
          refine WL.val (OV.assign rfl) rfl ?_
          refine WL.nil ?_
          have hnot : o.y.x ∉ xsI z.is := fun hm => by
            obtain ⟨j, hj, _⟩ := placeI_get hm
            omega
          have el : z.is.length + 1 = (z.is ++ [(⟨⟨o.y.x, a81, c81⟩, 4⟩ : IG)]).length := by simp
          have ef : z.is.flatMap igC ++ igC ⟨⟨o.y.x, a81, c81⟩, 4⟩ = (z.is ++ [(⟨⟨o.y.x, a81, c81⟩, 4⟩ : IG)]).flatMap igC := by simp
          have em : argsA ((z.is ++ [(⟨⟨o.y.x, a81, c81⟩, 4⟩ : IG)]).map IG.y) = argsA (z.is.map IG.y) ++ [rowT a81 c81 o.y.x.args] := by simp [argsA]
          refine WX.round2 (i + 1) ⟨g1, a87, c87, z.is ++ [⟨⟨o.y.x, a81, c81⟩, 4⟩]⟩ ⟨rfl, rfl, by rw [← el]; rfl, rfl, trivial⟩ (fun w' hw => ⟨⟨by omega, ⟨?_, ?_, ?_, ?_⟩, hp1, by simp; omega⟩, ?_⟩) (by show os.length - (i + 1) < os.length - i; omega)
          · have e : addF (Fis z.is) o.y.x = Fis (z.is ++ [⟨⟨o.y.x, a81, c81⟩, 4⟩]) := by
              unfold addF
              rw [if_pos ⟨by simpa using g44, by rw [Fis_fst]; exact hnot⟩]
              simp [Fis]
            rw [e] at bs1; exact bs1
          · intro q hq
            rcases List.mem_append.1 hq with h | h
            · exact hz.part q h
            · simp only [List.mem_singleton] at h; subst h; exact .inr (.inr rfl)
          · intro q hq
            rcases List.mem_append.1 hq with h | h
            · exact hz.args q h
            · simp only [List.mem_singleton] at h; subst h; exact fact_args (by simpa using g44)
          · intro q hq
            rcases List.mem_append.1 hq with h | h
            · exact hz.fct q h
            · simp only [List.mem_singleton] at h; subst h; simpa using g44
          · rw [el, ef] at hw
            rw [em]
            exact (hw.pick [[rowIt a87 c87 (z.is ++ [⟨⟨o.y.x, a81, c81⟩, 4⟩])], [own b86 (.cells (igC ⟨⟨o.y.x, a81, c81⟩, 4⟩).toArray 36 (0, 0))], [own b13 (.cells (atC ⟨o.y.x.b, o.y.x.name, o.y.x.args⟩ a81 c81).toArray 34 (0, 0))], [rowT a81 c81 o.y.x.args], [own bb8 (.cells (opB o).toArray 65 (0, 0))], argsA (z.is.map IG.y), baseA g1] [0, 5, 3, 6] 7 rfl (by decide) (by decide)).perm (List.Perm.of_eq (by simp [cat]))
        · try simp only [decide_eq_true_eq, decide_eq_false_iff_not, Bool.not_eq_true', Bool.not_eq_false'] at c68
          refine WC.skip ?_
          refine WX.block_normal ?_
          refine WX.block_normal ?_
          refine WX.next ?_
          refine WC.region ?_
          refine WL.val (OV.move rfl) rfl ?_
          refine WL.val (OV.addN (j := 1) rfl rfl (by omega)) rfl ?_
          refine WL.val (OV.assign rfl) rfl ?_
          refine WL.nil ?_
          have hin : o.y.x ∈ xsI z.is := Classical.byContradiction fun hm => by
            have := placeI_not hm
            omega
          have e : addF (Fis z.is) o.y.x = Fis z.is := by
            unfold addF; rw [if_neg (fun k => k.2 (by rw [Fis_fst]; exact hin))]
          rw [e] at bs1
          exact WX.round2 (i + 1) ⟨g1, z.a, z.c, z.is⟩ ⟨rfl, rfl, rfl, rfl, trivial⟩ (fun w' hw => ⟨⟨by omega, ⟨bs1, hz.part, hz.args, hz.fct⟩, hp1, by show z.is.length ≤ i + 1; omega⟩, hw.pick [baseA g1, [own bb8 (.cells (opB o).toArray 65 (0, 0))], [rowIt z.a z.c z.is], argsA (z.is.map IG.y)] [2, 3, 0] 4 rfl (by decide) (by decide)⟩) (by show os.length - (i + 1) < os.length - i; omega)
      · try simp only [decide_eq_true_eq, decide_eq_false_iff_not, Bool.not_eq_true', Bool.not_eq_false'] at g44
        refine WL.skip (b := false) rfl rfl rfl rfl ?_
        refine WL.skip (b := false) rfl rfl rfl rfl ?_
        refine WL.skip (b := false) rfl rfl rfl rfl ?_
        refine WL.skip (b := false) rfl rfl rfl rfl ?_
        refine WL.skip (b := false) rfl rfl rfl rfl ?_
        refine WL.val (OV.pickF rfl rfl) rfl ?_
        refine WL.val (OV.assign rfl) rfl ?_
        refine WL.nil ?_
        refine WX.next ?_
        refine WC.seq ?_
        refine WC.seq ?_
        refine WC.region ?_
        refine WL.val (OV.move rfl) rfl ?_
        refine WL.val (OV.move rfl) rfl ?_
        refine WL.val ((OV.neqB T.u4 rfl rfl).cast (u := .bool false) (by simp [g44])) rfl ?_
        refine WL.val (OV.move rfl) rfl ?_
        refine WL.known (t := 54) (b := false) rfl (by rfl) ?_
        refine WL.go (b := false) rfl rfl rfl ?_
        refine WL.val (OV.move rfl) rfl ?_
        refine WL.go (b := false) rfl rfl rfl ?_
        refine WL.val ((OV.eql rfl rfl).cast (u := .bool false) (by simp [g44])) rfl ?_
        refine WL.go (b := false) rfl rfl rfl ?_
        refine WL.val (OV.move rfl) rfl ?_
        refine WL.go (b := false) rfl rfl rfl ?_
        refine WL.val ((OV.neqB T.u4 rfl rfl).cast (u := .bool false) (by simp [g44])) rfl ?_
        refine WL.val (OV.pickF rfl rfl) rfl ?_
        refine WL.val (OV.move rfl) rfl ?_
        refine WL.known (t := 60) (b := false) rfl (by rfl) ?_
        refine WL.go (b := false) rfl rfl rfl ?_
        refine WL.val (OV.move rfl) rfl ?_
        refine WL.go (b := false) rfl rfl rfl ?_
        refine WL.val (OV.not rfl) rfl ?_
        refine WL.go (b := false) rfl rfl rfl ?_
        refine WL.val (OV.move rfl) rfl ?_
        refine WL.known (t := 63) (b := true) rfl (by simp [g44]) ?_
        refine WL.go (b := true) rfl rfl rfl ?_
        refine WL.val (OV.move rfl) rfl ?_
        refine WL.go (b := true) rfl rfl rfl ?_
        refine WL.val ((OV.neq rfl rfl).cast (u := .bool false) (by simp [g44])) rfl ?_
        refine WL.go (b := false) rfl rfl rfl ?_
        refine WL.val (OV.pickT rfl rfl) rfl ?_
        refine WL.val (OV.pickF rfl rfl) rfl ?_
        refine WL.nil ?_
        refine WX.next ?_
        refine WC.condF (show _ = some (Value.bool false) from by rfl) ?_
        refine WC.skip ?_
        refine WX.next ?_
        refine WC.seq ?_
        refine WC.region ?_
        refine WL.val (OV.move rfl) rfl ?_
        refine WL.nil ?_
        refine WX.next ?_
        refine WC.condF rfl ?_
        refine WC.skip ?_
        refine WX.block_normal ?_
        refine WX.block_normal ?_
        refine WX.next ?_
        refine WC.region ?_
        refine WL.val (OV.move rfl) rfl ?_
        refine WL.val (OV.addN (j := 1) rfl rfl (by omega)) rfl ?_
        refine WL.val (OV.assign rfl) rfl ?_
        refine WL.nil ?_
        have e : addF (Fis z.is) o.y.x = Fis z.is := addF_not (by simpa using g44)
        rw [e] at bs1
        exact WX.round2 (i + 1) ⟨g1, z.a, z.c, z.is⟩ ⟨rfl, rfl, rfl, rfl, trivial⟩ (fun w' hw => ⟨⟨by omega, ⟨bs1, hz.part, hz.args, hz.fct⟩, hp1, by show z.is.length ≤ i + 1; omega⟩, hw.pick [baseA g1, [own bb8 (.cells (opB o).toArray 65 (0, 0))], [rowIt z.a z.c z.is], argsA (z.is.map IG.y)] [2, 3, 0] 4 rfl (by decide) (by decide)⟩) (by show os.length - (i + 1) < os.length - i; omega)
    · try simp only [decide_eq_true_eq, decide_eq_false_iff_not, Bool.not_eq_true', Bool.not_eq_false'] at c31
      refine WC.seq ?_
      refine WC.region ?_
      refine WL.val (OV.eql rfl rfl) rfl ?_
      refine WL.val (OV.assign rfl) rfl ?_
      refine WL.nil ?_
      refine WX.next ?_
      refine WC.cond rfl (fun c88 => ?_) (fun c88 => ?_)
      · try simp only [decide_eq_true_eq, decide_eq_false_iff_not, Bool.not_eq_true', Bool.not_eq_false'] at c88
        refine WC.seq ?_
        refine WC.region ?_
        refine WL.val (OV.assign rfl) rfl ?_
        refine WL.nil ?_
        refine WX.next ?_
        refine WC.seq ?_
        refine WC.seq ?_
        refine WC.region ?_
        refine WL.val (OV.assign rfl) rfl ?_
        refine WL.nil ?_
        refine WX.next ?_
        refine WC.block ?_
        refine WC.know (fun w' hw => (fun hp => row_addrK (hw.it (rowIt z.a z.c z.is) (.tail _ (.head _))) hp : 0 < z.is.length → ∃ q, z.a = some ⟨q, 0, none⟩)) (fun hza => ?_)
        refine WC.focus perm1 ?_
        refine WC.loop1 (fun (k : Nat) => [(0, .slice a os.length c), (5, ptr pg), (6, .slice z.a z.is.length z.c), (7, .int .i64 (i : Int)), (8, .pointer (some ⟨bb8, 0, none⟩)), (14, .int .i64 (cnI (z.is.take k) : Int)), (15, .int .i64 (k : Int))])
            (fun k w' => k ≤ z.is.length ∧ Sat w (fun _ => False) (fun b => b < w.heap.size) w (row 36 6 z.a z.is.length z.c ((tuI z.is k).flatMap igC) :: own bb8 (.cells (opB o).toArray 65 (0, 0)) :: (argsA (z.is.map IG.y) ++ baseA z.g)) w')
            (fun k => z.is.length - k) 0 ⟨rfl, rfl, rfl, rfl, rfl, rfl, rfl, trivial⟩ (fun w' hw => ⟨by omega, hw⟩) ?_
        intro k
        refine WC.pure (fun hk => ?_)
        refine WC.seq ?_
        refine WC.seq ?_
        refine WC.region ?_
        refine WL.val (OV.move rfl) rfl ?_
        refine WL.val (OV.move rfl) rfl ?_
        first
        | (refine WL.val (OV.lenSlice rfl T.u24) rfl ?_)
        | (refine WL.val (OV.lenStr rfl T.u24) rfl ?_)
        refine WL.val (OV.lss rfl rfl) rfl ?_
        refine WL.nil ?_
        refine WX.next ?_
        refine WC.cond rfl (fun c93 => ?_) (fun c93 => ?_)
        · try simp only [decide_eq_true_eq, decide_eq_false_iff_not, Bool.not_eq_true', Bool.not_eq_false'] at c93
          refine WC.skip ?_
          refine WX.next ?_
          refine WC.seq ?_
          refine WC.block ?_
          refine WC.seq ?_
          refine WC.region ?_
          refine WL.val (OV.move rfl) rfl ?_
          refine WL.val (OV.move rfl) rfl ?_
          obtain ⟨i0, hi0⟩ : ∃ i0, z.is[k]? = some i0 := ⟨_, List.getElem?_eq_getElem (by omega)⟩
          have hi0m := List.mem_of_getElem? hi0
          obtain ⟨qb, hqb⟩ := hza (by omega)
          refine WL.val ((OV.indexSlice (show _ = some (Value.slice (some ⟨qb, 0, none⟩) z.is.length z.c) by rw [← hqb]; rfl) rfl T.u24 T.z36 (by omega)).cast (u := .pointer (some ⟨qb, k * 6, none⟩)) (by rw [Int.toNat_natCast, add_off, Nat.zero_add])) rfl ?_
          first
          | (refine WL.val (OV.fieldAddr0 (off := 5) rfl T.u36 rfl) rfl ?_)
          | (refine WL.val (OV.fieldAddr (off := 5) rfl T.u36 rfl) rfl ?_)
          refine WL.val (OV.load1 (v := .int .i64 (i0.p : Int)) rfl T.u3 rfl (fun _ hw => by have h := row_cellsE hw hqb (.head _) (k * 6 + 5) (.int .i64 (i0.p : Int)) (by rw [flat_get igC_len _ k 5 i0 (tuI_get hi0) (by omega)]; rfl); rw [add_off, Nat.zero_add] at h; exact h)) rfl ?_
          refine WL.nil ?_
          refine WX.next ?_
          refine WC.block ?_
          refine WC.seq ?_
          refine WC.region ?_
          refine WL.val (OV.eql rfl rfl) rfl ?_
          refine WL.val (OV.assign rfl) rfl ?_
          refine WL.nil ?_
          refine WX.next ?_
          refine WC.cond rfl (fun c101 => ?_) (fun c101 => ?_)
          · try simp only [decide_eq_true_eq, decide_eq_false_iff_not, Bool.not_eq_true', Bool.not_eq_false'] at c101
            refine WC.region ?_
            refine WL.val (OV.move rfl) rfl ?_
            refine WL.val (OV.move rfl) rfl ?_
            refine WL.val ((OV.indexSlice (show _ = some (Value.slice (some ⟨qb, 0, none⟩) z.is.length z.c) by rw [← hqb]; rfl) rfl T.u24 T.z36 (by omega)).cast (u := .pointer (some ⟨qb, k * 6, none⟩)) (by rw [Int.toNat_natCast, add_off, Nat.zero_add])) rfl ?_
            first
            | (refine WL.val (OV.fieldAddr0 (off := 5) rfl T.u36 rfl) rfl ?_)
            | (refine WL.val (OV.fieldAddr (off := 5) rfl T.u36 rfl) rfl ?_)
            refine WL.storeRow (o := k * 6 + 5) rfl hqb rfl rfl T.z3 (by rw [flat_len igC_len, tuI_length]; omega) ?_
            refine WL.nil ?_
            refine WX.block_normal ?_
            refine WX.block_normal ?_
            refine WX.next ?_
            refine WC.region ?_
            refine WL.val (OV.move rfl) rfl ?_
            refine WL.val (OV.addN (j := 1) rfl rfl (by omega)) rfl ?_
            refine WL.val (OV.assign rfl) rfl ?_
            refine WL.nil ?_
            have hip : i0.p = 2 := by omega
            exact WX.round1 (k + 1) ⟨rfl, rfl, rfl, rfl, rfl, by rw [cnI_take hi0, hip]; rfl, rfl, trivial⟩ (fun w' hw => ⟨by omega, by
              rw [flat_set igC_len _ k 5 i0 ⟨i0.y, 1⟩ (.int .i64 1) (tuI_get hi0) (by omega) rfl, show (⟨i0.y, 1⟩ : IG) = turnI i0 from by unfold turnI; rw [hip]; rfl, tuI_set hi0] at hw
              exact hw⟩) (by show z.is.length - (k + 1) < z.is.length - k; omega)
          · try simp only [decide_eq_true_eq, decide_eq_false_iff_not, Bool.not_eq_true', Bool.not_eq_false'] at c101
            refine WC.seq ?_
            refine WC.region ?_
            refine WL.val (OV.eql rfl rfl) rfl ?_
            refine WL.val (OV.assign rfl) rfl ?_
            refine WL.nil ?_
            refine WX.next ?_
            refine WC.cond rfl (fun c107 => ?_) (fun c107 => ?_)
            · try simp only [decide_eq_true_eq, decide_eq_false_iff_not, Bool.not_eq_true', Bool.not_eq_false'] at c107
              refine WC.seq ?_
              refine WC.region ?_
              refine WL.val (OV.move rfl) rfl ?_
              refine WL.val (OV.move rfl) rfl ?_
              refine WL.val ((OV.indexSlice (show _ = some (Value.slice (some ⟨qb, 0, none⟩) z.is.length z.c) by rw [← hqb]; rfl) rfl T.u24 T.z36 (by omega)).cast (u := .pointer (some ⟨qb, k * 6, none⟩)) (by rw [Int.toNat_natCast, add_off, Nat.zero_add])) rfl ?_
              first
              | (refine WL.val (OV.fieldAddr0 (off := 5) rfl T.u36 rfl) rfl ?_)
              | (refine WL.val (OV.fieldAddr (off := 5) rfl T.u36 rfl) rfl ?_)
              refine WL.storeRow (o := k * 6 + 5) rfl hqb rfl rfl T.z3 (by rw [flat_len igC_len, tuI_length]; omega) ?_
              refine WL.nil ?_
              refine WX.next ?_
              refine WC.region ?_
              refine WL.val (OV.move rfl) rfl ?_
              have hcn : cnI (z.is.take k) ≤ k := cnI_le _ _
              refine WL.val (OV.addN (i := cnI (z.is.take k)) (j := 1) rfl rfl (by omega)) rfl ?_
              refine WL.val (OV.assign rfl) rfl ?_
              refine WL.nil ?_
              refine WX.block_normal ?_
              refine WX.block_normal ?_
              refine WX.next ?_
              refine WC.region ?_
              refine WL.val (OV.move rfl) rfl ?_
              refine WL.val (OV.addN (j := 1) rfl rfl (by omega)) rfl ?_
              refine WL.val (OV.assign rfl) rfl ?_
              refine WL.nil ?_
              have hip : i0.p = 4 := by omega
              exact WX.round1 (k + 1) ⟨rfl, rfl, rfl, rfl, rfl, by rw [cnI_take hi0, hip]; rfl, rfl, trivial⟩ (fun w' hw => ⟨by omega, by
                rw [flat_set igC_len _ k 5 i0 ⟨i0.y, 2⟩ (.int .i64 2) (tuI_get hi0) (by omega) rfl, show (⟨i0.y, 2⟩ : IG) = turnI i0 from by unfold turnI; rw [hip]; rfl, tuI_set hi0] at hw
                exact hw⟩) (by show z.is.length - (k + 1) < z.is.length - k; omega)
            · try simp only [decide_eq_true_eq, decide_eq_false_iff_not, Bool.not_eq_true', Bool.not_eq_false'] at c107
              refine WC.skip ?_
              refine WX.block_normal ?_
              refine WX.block_normal ?_
              refine WX.next ?_
              refine WC.region ?_
              refine WL.val (OV.move rfl) rfl ?_
              refine WL.val (OV.addN (j := 1) rfl rfl (by omega)) rfl ?_
              refine WL.val (OV.assign rfl) rfl ?_
              refine WL.nil ?_
              have hip : i0.p = 1 := by
                have := hz.part i0 hi0m
                omega
              exact WX.round1 (k + 1) ⟨rfl, rfl, rfl, rfl, rfl, by rw [cnI_take hi0, hip]; rfl, rfl, trivial⟩ (fun w' hw => ⟨by omega, by
                rw [tuI_same hi0 (by cases i0; simp only at hip; subst hip; rfl)] at hw
                exact hw⟩) (by show z.is.length - (k + 1) < z.is.length - k; omega)
        · try simp only [decide_eq_true_eq, decide_eq_false_iff_not, Bool.not_eq_true', Bool.not_eq_false'] at c93
          refine WC.exit ?_
          refine WX.then_exit ?_
          refine WX.then_exit ?_
          refine WX.block_hit ?_
          refine WX.next ?_
          refine WC.seq ?_
          have hkl : k = z.is.length := by omega
          rw [hkl, tuI_all]
          refine WC.focus (ow' := baseA z.g ++ ([row 36 6 z.a z.is.length z.c ((z.is.map turnI).flatMap igC), own bb8 (.cells (opB o).toArray 65 (0, 0))] ++ argsA (z.is.map IG.y))) (by exact perm_cat [[row 36 6 z.a z.is.length z.c ((z.is.map turnI).flatMap igC), own bb8 (.cells (opB o).toArray 65 (0, 0))], argsA (z.is.map IG.y), baseA z.g] [2, 0, 1] (by decide) rfl) ?_
          refine WC.region ?_
          refine WL.val (OV.move rfl) rfl ?_
          refine WL.callTA (ι := BaseG) (vs := [ptr z.g.p]) (vv := fun _ => .int .i64 ((n4F (Fis z.is) : Nat) : Int)) (pp := fun g' => BS g' i (Fis (z.is.map turnI)) ∧ g'.p = z.g.p) (baseA z.g) (AA := fun g' => baseA g') rfl (by kernel_rfl) (by rw [hzp]; rfl) rfl (fun w' hw' hH => (bturn_bs z.g i (Fis z.is) hz.bs w' hH).mono (fun en w'' ⟨g', h1, h2, h3⟩ => ⟨g', h1, by rw [← Fis_turn]; exact h2, h3⟩)) ?_
          rintro g1 ⟨bs1, hp1⟩
          have hp1 : g1.p = pg := by rw [hp1, hzp]
          refine WL.val (OV.move rfl) rfl ?_
          refine WL.val (OV.neq rfl rfl) rfl ?_
          refine WL.nil ?_
          refine WX.next ?_
          refine WC.condF (show _ = some (Value.bool false) from by exact congrArg (fun b => some (Value.bool b)) (by rw [n4_Fis, List.take_of_length_le (by omega)]; simp)) ?_
          refine WC.skip ?_
          refine WX.block_normal ?_
          refine WX.block_normal ?_
          refine WX.next ?_
          refine WC.region ?_
          refine WL.val (OV.move rfl) rfl ?_
          refine WL.val (OV.addN (j := 1) rfl rfl (by omega)) rfl ?_
          refine WL.val (OV.assign rfl) rfl ?_
          refine WL.nil ?_
          have em : (z.is.map turnI).map IG.y = z.is.map IG.y := by rw [List.map_map]; rfl
          exact WX.round2 (i + 1) ⟨g1, z.a, z.c, z.is.map turnI⟩ ⟨rfl, rfl, by rw [List.length_map]; rfl, rfl, trivial⟩ (fun w' hw => ⟨⟨by omega, ⟨bs1.mono (by omega), (fun q hq => by
            obtain ⟨p, hp, rfl⟩ := List.mem_map.1 hq
            show (if p.p = 4 then 2 else 1) = 1 ∨ (if p.p = 4 then 2 else 1) = 2 ∨ (if p.p = 4 then 2 else 1) = 4
            split
            · exact .inr (.inl rfl)
            · exact .inl rfl), (fun q hq => by
            obtain ⟨p, hp, rfl⟩ := List.mem_map.1 hq
            exact hz.args p hp), (fun q hq => by
            obtain ⟨p, hp, rfl⟩ := List.mem_map.1 hq
            exact hz.fct p hp)⟩, hp1, by simp; omega⟩, by
            have h2 := hw.pick [baseA g1, [row 36 6 z.a z.is.length z.c ((z.is.map turnI).flatMap igC), own bb8 (.cells (opB o).toArray 65 (0, 0))], argsA (z.is.map IG.y)] [1, 2, 0] 3 rfl (by decide) (by decide)
            have h3 := h2.pick [[row 36 6 z.a z.is.length z.c ((z.is.map turnI).flatMap igC)], [own bb8 (.cells (opB o).toArray 65 (0, 0))], argsA (z.is.map IG.y), baseA g1] [0, 2, 3] 4 rfl (by decide) (by decide)
            unfold rowIt
            rw [em, List.length_map]
            exact h3⟩) (by show os.length - (i + 1) < os.length - i; omega)
      · try simp only [decide_eq_true_eq, decide_eq_false_iff_not, Bool.not_eq_true', Bool.not_eq_false'] at c88
        refine WC.skip ?_
        refine WX.block_normal ?_
        refine WX.block_normal ?_
        refine WX.next ?_
        refine WC.region ?_
        refine WL.val (OV.move rfl) rfl ?_
        refine WL.val (OV.addN (j := 1) rfl rfl (by omega)) rfl ?_
        refine WL.val (OV.assign rfl) rfl ?_
        refine WL.nil ?_
        exact WX.round2 (i + 1) z ⟨rfl, rfl, rfl, rfl, trivial⟩ (fun w' hw => ⟨⟨by omega, ⟨hz.bs.mono (by omega), hz.part, hz.args, hz.fct⟩, hzp, by omega⟩, hw.drop⟩) (by show os.length - (i + 1) < os.length - i; omega)
  · try simp only [decide_eq_true_eq, decide_eq_false_iff_not, Bool.not_eq_true', Bool.not_eq_false'] at c22
    refine WC.exit ?_
    refine WX.then_exit ?_
    refine WX.then_exit ?_
    refine WX.block_hit ?_
    refine WX.next ?_
    refine WC.seq ?_
    refine WC.region ?_
    refine WL.val (OV.move rfl) rfl ?_
    refine WL.val (OV.move rfl) rfl ?_
    refine WL.val (OV.assign rfl) rfl ?_
    refine WL.val (OV.assign rfl) rfl ?_
    refine WL.val (OV.assign rfl) rfl ?_
    refine WL.nil ?_
    refine WX.next ?_
    refine WC.ret ?_
    exact WX.ret3 rfl rfl rfl rfl rfl (fun w' hw => ⟨z, by rw [hzp], ⟨by rw [show os.length = i by omega]; exact hz, by omega⟩, hw.turned0⟩)

end Go.Proofs.YtgiiifadbnpfkaaGreatDoor

namespace Go.Proofs.YtgiiifadbnpfkaaGreatDoor
open Go Go.Hw
set_option linter.unusedSimpArgs false
set_option linter.unusedVariables false
section
open Go.ChangeShapes Go.WideShapes Go.ChangeAt Go.RowKit
variable {H : Type} {enc : TypeId × Value → H} {w : World} {base : Nat} {spare : Nat → Bool} {held : Bool} {r : Reach} {b0 : Nat}
def wtO (o : OpB) : Nat := wtA o.y + 4
set_option maxRecDepth 100000 in
theorem trod_op {fuel : Nat} {cs : List Value} {x : DataW H × List MemPlace} (h : DataW.trod enc Tryz.prog w base spare held fuel 65 cs = some x) :
    ∃ o : OpB, cs = opB o ∧ RT w o.y.a o.y.x.args ∧ wtO o ≤ Rows.uptoBulk x.1 := by
  obtain ⟨xs, n, rfl, rfl, hl, hxs, hf⟩ := DataW.trod_struct T.u65 h
  have hl8 : cs.length = 8 := by rw [hl]; kernel_rfl
  have cI : Program.cellsOf Tryz.prog 3 = 1 := by kernel_rfl
  have cA : Program.cellsOf Tryz.prog 34 = 5 := by kernel_rfl
  have cB : Program.cellsOf Tryz.prog 4 = 1 := by kernel_rfl
  match cs, hl8 with
  | [v0, v1, v2, v3, v4, v5, v6, v7], _ =>
    match xs, hxs with
    | [x0, x1, x2, x3], _ =>
      have k0 : DataW.trod enc Tryz.prog w base spare held n 3 [v0] = some x0 := by
        have k : DataW.trod enc Tryz.prog w base spare held n 3 (List.take (Program.cellsOf Tryz.prog 3) (List.drop 0 [v0, v1, v2, v3, v4, v5, v6, v7])) = some x0 := hf 0 _ rfl
        rw [cI] at k; exact k
      have k1 : DataW.trod enc Tryz.prog w base spare held n 34 [v1, v2, v3, v4, v5] = some x1 := by
        have k : DataW.trod enc Tryz.prog w base spare held n 34 (List.take (Program.cellsOf Tryz.prog 34) (List.drop 1 [v0, v1, v2, v3, v4, v5, v6, v7])) = some x1 := hf 1 _ rfl
        rw [cA] at k; exact k
      have k2 : DataW.trod enc Tryz.prog w base spare held n 3 [v6] = some x2 := by
        have k : DataW.trod enc Tryz.prog w base spare held n 3 (List.take (Program.cellsOf Tryz.prog 3) (List.drop 6 [v0, v1, v2, v3, v4, v5, v6, v7])) = some x2 := hf 2 _ rfl
        rw [cI] at k; exact k
      have k3 : DataW.trod enc Tryz.prog w base spare held n 4 [v7] = some x3 := by
        have k : DataW.trod enc Tryz.prog w base spare held n 4 (List.take (Program.cellsOf Tryz.prog 4) (List.drop 7 [v0, v1, v2, v3, v4, v5, v6, v7])) = some x3 := hf 3 _ rfl
        rw [cB] at k; exact k
      obtain ⟨kind, e0, rfl, w0⟩ := DataW.trod_int T.u3 k0
      obtain ⟨y, e1, r1, b1⟩ := trod_atom k1
      obtain ⟨num, e2, rfl, w2⟩ := DataW.trod_int T.u3 k2
      obtain ⟨other, e3, rfl⟩ := DataW.trod_bool T.u4 k3
      simp only [agC, atC, List.cons.injEq, and_true] at e0 e1 e2 e3
      obtain ⟨rfl, rfl, rfl, rfl, rfl⟩ := e1
      subst e0; subst e2; subst e3
      refine ⟨⟨kind, y, num, other⟩, rfl, r1, ?_⟩
      simp only [List.map_cons, List.map_nil, Rows.uptoBulk, Rows.uptoBulkAll, wtO]
      omega
set_option maxRecDepth 100000 in
theorem open_ops {v : Value} {d : DataW H} {p : List MemPlace} (hv : Value.okWide Tryz.prog w r b0 22 v) (h : DataW.Trod enc Tryz.prog w base spare held 22 v d p) :
    ∃ a c os, v = .slice a os.length c ∧ ROp w a os ∧ (os.map wtO).sum + 1 ≤ Rows.uptoBulk d := by
  obtain ⟨fuel, hf⟩ := h
  obtain ⟨a, c, os, e, ha, hat, hg, hb⟩ := trod_listN (⟨0, ⟨default, none, 0⟩, 0, false⟩ : OpB) (s := 8) T.u22 (by kernel_rfl) opB opB_len (fun o => RT w o.y.a o.y.x.args) wtO (fun fuel cs x hx => by
    obtain ⟨o, e, h1, h2⟩ := trod_op hx
    exact ⟨o, e, h1, h2⟩) hf
  exact ⟨a, c, os, slice_of_ok (P := Tryz.prog) T.u22 hv e, ⟨ha, hat, hg⟩, hb⟩
theorem ops_ok {os : List OpB} (h : (os.map wtO).sum + 1 ≤ 1048576) : OBs os := by
  have h1 := len_wt wtO (k := 1) (fun y => by unfold wtO; omega) os
  refine ⟨by omega, fun o ho => ?_, fun o ho => ?_⟩
  · have h2 := le_sum wtO ho
    have h3 : o.y.x.args.length ≤ wtO o := by unfold wtO wtA; omega
    omega
  · have h2 := le_sum wtO ho
    have h3 : o.y.x.name.size ≤ wtO o := by unfold wtO wtA; omega
    omega
end

end Go.Proofs.YtgiiifadbnpfkaaGreatDoor

namespace Go.Proofs.YtgiiifadbnpfkaaGreatDoor
open Go Go.Hw
set_option linter.unusedSimpArgs false
set_option linter.unusedVariables false
theorem bl_cmp : ∀ a b : List UInt8, (!(Op.bytesLess a b || a == b)) = decide (0 < Lib.compareBytes a b)
  | [], [] => rfl
  | [], _ :: _ => rfl
  | _ :: _, [] => rfl
  | a :: l, b :: m => by
    rw [Lib.compareBytes, Op.bytesLess]
    by_cases h1 : a < b
    · have hne : a ≠ b := by rintro rfl; exact absurd h1 (by simp)
      simp [h1]
    · by_cases h2 : b < a
      · have hne : a ≠ b := by rintro rfl; exact absurd h2 (by simp)
        simp [h1, h2, hne]
      · have he : a = b := UInt8.toNat_inj.1 (by
          have h1' : ¬ a.toNat < b.toNat := h1
          have h2' : ¬ b.toNat < a.toNat := h2
          omega)
        subst he
        have ih := bl_cmp l m
        rw [if_neg h1, if_neg h1, ← ih]
        simp
theorem _root_.Go.Hw.OV.gtrS {P : Program} {n : Nat} {ds : DS} {e : Env} {S : World → Prop} {dst : Option Tmp} {xt yt t : TypeId} {p : String} {af : Array Edge} {g : Option (Nat × Bool)} {x y : Operand} {s u : ByteArray} (hx : ev e x = some (.string s)) (hy : ev e y = some (.string u)) : OV P n ds e S ⟨dst, .binOp .gtr xt x y yt, t, p, af, g⟩ (.bool (decide (0 < cmpS s u))) := fun _ w ha _ => by
  have h := bl_cmp s.data.toList u.data.toList
  rw [← ByteArray.toList_eq, ← ByteArray.toList_eq] at h
  have h2 : decide (0 < cmpS s u) = (!(Op.bytesLess s.toList u.toList || s.toList == u.toList)) := by
    rw [h]; unfold cmpS; rw [ByteArray.toList_eq, ByteArray.toList_eq]
  rw [h2]
  simp [execOp, ha.eval hx, ha.eval hy, eqGuard_gtr, binOp, Op.stringOp]
theorem fact_name {x : At} (h : factB x = true) : x.name.size ≤ 32 := by
  unfold factB chkA at h
  by_cases hn : nameB x.name = false
  · simp [hn] at h
  · have hn : nameB x.name = true := by simpa using hn
    unfold nameB at hn
    rw [decide_eq_true_eq] at hn
    exact hn.2.1
theorem bpart_bs (g : BaseG) (k : Nat) (F : List (At × Nat)) (b : BS g k F) (x : At) (a : Option Addr) (c : Nat) (hl : x.args.length ≤ 1099511627775) (hs : x.name.size ≤ 1099511627776) (w : World) (hN : NoneAt w) (hN1 : ¬ DD (baseA g) 1) (hr : RT w a x.args) (hne : ∀ q, a = some q → 0 < x.args.length → ¬ DD (baseA g) q.block) (hA : Holds (baseA g) w) :
    Calls Tryz.prog 13 #[ptr g.p, atV x a c] w fun e w' => e = .returned (.int .i64 ((if factB x = true then partF F x else 0 : Nat) : Int)) ∧ Turns (baseA g) (baseA g) w w' := by
  refine (bpart_calls g b.ok x a c hl hs w hN hN1 hr hne hA).mono ?_
  rintro e w' ⟨he, ht⟩
  exact ⟨by rw [he, partF_perm b.fs (facts_nodup b.ok)], ht⟩
theorem blen_bs (g : BaseG) (k : Nat) (F : List (At × Nat)) (b : BS g k F) (parts : Int) (w : World) (hA : Holds (baseA g) w) :
    Calls Tryz.prog 14 #[ptr g.p, .int .i64 parts] w fun e w' => e = .returned (.int .i64 ((selF F parts).length : Int)) ∧ Turns (baseA g) (baseA g) w w' := by
  refine (blen_calls g b.ok parts w hA).mono ?_
  rintro e w' ⟨he, ht⟩
  exact ⟨by rw [he, (selF_perm b.fs parts).length_eq], ht⟩
def cnP (parts : Int) (l : List IG) : Nat := (l.filter fun i => inP parts i.p).length
theorem cnP_le (parts : Int) (l : List IG) (k : Nat) : cnP parts (l.take k) ≤ k := Nat.le_trans (List.length_filter_le _ _) (by rw [List.length_take]; omega)
theorem cnP_take {parts : Int} {l : List IG} {i : Nat} {n : IG} (h : l[i]? = some n) : cnP parts (l.take (i + 1)) = cnP parts (l.take i) + if inP parts n.p = true then 1 else 0 := by
  rw [cnP, cnP, List.take_add_one, h, List.filter_append, List.length_append]
  congr 1
  cases h4 : inP parts n.p <;> simp [h4]
theorem selF_Fis (is : List IG) (parts : Int) : (selF (Fis is) parts).length = cnP parts is := by
  unfold selF Fis cnP
  rw [List.length_map, List.filter_map, List.length_map]
  rfl
theorem selF_nodup {F : List (At × Nat)} (hn : (F.map (·.1)).Nodup) (parts : Int) : (selF F parts).Nodup := by
  unfold selF
  exact List.Nodup.sublist (List.filter_sublist.map _) hn
theorem pair_next {α : Type} {R : α → α → Prop} : ∀ {l : List α}, l.Pairwise R → ∀ {i : Nat} {x y : α}, l[i]? = some x → l[i + 1]? = some y → R x y := by
  intro l hp i x y hx hy
  obtain ⟨h1, e1⟩ := List.getElem?_eq_some_iff.1 hx
  obtain ⟨h2, e2⟩ := List.getElem?_eq_some_iff.1 hy
  have := List.pairwise_iff_getElem.1 hp i (i + 1) h1 h2 (by omega)
  rwa [e1, e2] at this
theorem rises_sortA {l : List At} (hn : l.Nodup) {i : Nat} {x y : At} (hx : (sortA l)[i]? = some x) (hy : (sortA l)[i + 1]? = some y) : cmpA x y < 0 := by
  have h1 := pair_next (sortA_sorted l) hx hy
  have h2 : (sortA l).Nodup := (sortA_perm l).nodup_iff.2 hn
  have h3 : x ≠ y := pair_next h2 hx hy
  have h4 := cmpA_ok.anti x y
  have h5 : cmpA x y ≠ 0 := fun h => h3 (cmpA_ok.eq _ _ h)
  omega
theorem rises_sortP {l : List Pd} (hn : l.Nodup) {i : Nat} {x y : Pd} (hx : (sortP l)[i]? = some x) (hy : (sortP l)[i + 1]? = some y) : cmpP x y < 0 := by
  have h1 := pair_next (sortP_sorted l) hx hy
  have h2 : (sortP l).Nodup := (sortP_perm l).nodup_iff.2 hn
  have h3 : x ≠ y := pair_next h2 hx hy
  have h4 := cmpP_ok.anti x y
  have h5 : cmpP x y ≠ 0 := fun h => h3 (cmpP_ok.eq _ _ h)
  omega
theorem cmpP_lt {x y : Pd} (h : cmpP x y < 0) : ¬ 0 < cmpS x.name y.name ∧ (x.name = y.name → x.ar < y.ar) := by
  unfold cmpP at h
  simp only [orL] at h
  constructor
  · intro h0
    rw [if_pos (by omega)] at h; omega
  · intro he
    have h0 : cmpS x.name y.name = 0 := by rw [he]; exact cmpS_ok.refl _
    rw [if_neg (by omega)] at h
    have h2 : cmpN x.ar y.ar < 0 := by
      by_cases hc : cmpN x.ar y.ar ≠ 0
      · rw [if_pos hc] at h; exact h
      · rw [if_neg hc] at h; omega
    unfold cmpN at h2
    split at h2
    · omega
    · split at h2 <;> omega
def anyP (p : Pd) (l : List IG) : Bool := l.any fun i => decide (predOf i.y.x = p)
theorem anyP_take {p : Pd} {l : List IG} {i : Nat} {n : IG} (h : l[i]? = some n) : anyP p (l.take (i + 1)) = (anyP p (l.take i) || decide (predOf n.y.x = p)) := by
  unfold anyP
  rw [List.take_add_one, h, List.any_append]
  simp
def anyI (x : At) (l : List Pd) : Bool := l.any fun p => decide (predOf x = p)
theorem anyI_take {x : At} {l : List Pd} {i : Nat} {p : Pd} (h : l[i]? = some p) : anyI x (l.take (i + 1)) = (anyI x (l.take i) || decide (predOf x = p)) := by
  unfold anyI
  rw [List.take_add_one, h, List.any_append]
  simp
theorem pred_eq (x : At) (p : Pd) : decide (predOf x = p) = (decide (x.name = p.name) && decide ((x.args.length : Int) = (p.ar : Int))) := by
  cases p with
  | mk n r =>
    rw [Bool.eq_iff_iff]
    simp only [predOf, Pd.mk.injEq, decide_eq_true_eq, Bool.and_eq_true]
    exact ⟨fun h => ⟨h.1, by have := h.2; omega⟩, fun h => ⟨h.1, by have := h.2; omega⟩⟩
theorem BI.preds {z : BI} {k : Nat} (hz : BIok z k) (p : Pd) : p ∈ sortP (prF z.g.rs) ↔ ∃ i ∈ z.is, predOf i.y.x = p := by
  rw [(sortP_perm _).mem_iff, prF_mem hz.bs.ok]
  constructor
  · rintro ⟨x, hx, e⟩
    have h := (hz.bs.mem x).1 hx
    rw [Fis_fst] at h
    obtain ⟨i, hi, rfl⟩ := List.mem_map.1 h
    exact ⟨i, hi, e⟩
  · rintro ⟨i, hi, e⟩
    exact ⟨i.y.x, (hz.bs.mem _).2 (by rw [Fis_fst]; exact List.mem_map.2 ⟨i, hi, rfl⟩), e⟩
theorem BI.part {z : BI} {k : Nat} (hz : BIok z k) {i : IG} (hi : i ∈ z.is) : partF (Fis z.is) i.y.x = i.p := partF_mem hz.bs.nodup (List.mem_map.2 ⟨i, hi, rfl⟩)
theorem BI.sel {z : BI} {k : Nat} (hz : BIok z k) {parts : Int} {x : At} (h : x ∈ sortA (selF (Fis z.is) parts)) {m : Nat} {i : IG} (hm : z.is[m]? = some i) (hx : i.y.x = x) : inP parts i.p = true := by
  have h1 := (sortA_perm _).mem_iff.1 h
  obtain ⟨⟨y, q⟩, hq, he⟩ := List.mem_map.1 h1
  obtain ⟨hq, hin⟩ := List.mem_filter.1 hq
  have he : y = x := he
  have h2 := partF_mem hz.bs.nodup hq
  have h3 := BI.part hz (List.mem_of_getElem? hm)
  rw [hx, ← he, h2] at h3
  rw [← h3]; exact hin

end Go.Proofs.YtgiiifadbnpfkaaGreatDoor
