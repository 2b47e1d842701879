/- Contracts of functions of the program: what each returns and leaves in memory. Printed by gen.py and walk.py. -/
import Derived.Test.YtijplknkpkmblaaGreatDoorK8
namespace Go.Proofs.YtijplknkpkmblaaGreatDoor
open Go Go.Hw
set_option linter.unusedSimpArgs false
set_option linter.unusedVariables false
/-- An entry comes into the group of its key. -/
def gadd : List Grp → ByteArray → Nat → Option Addr → Nat → List Grp
  | [], k, p, a, c => [⟨k, a, c, [p]⟩]
  | g :: gs, k, p, a, c => if k = g.k then ⟨k, a, c, g.ps ++ [p]⟩ :: gs else g :: gadd gs k p a c
theorem psOf_nil (k : ByteArray) : psOf [] k = [] := rfl
theorem psOf_cons (g : Grp) (gs : List Grp) (k : ByteArray) : psOf (g :: gs) k = if k = g.k then g.ps else psOf gs k := by
  unfold psOf
  rw [List.find?_cons]
  by_cases h : k = g.k
  · subst h; simp
  · simp [h, Ne.symm h]
theorem psOf_gadd (gs : List Grp) (k : ByteArray) (p : Nat) (a : Option Addr) (c : Nat) (k' : ByteArray) : psOf (gadd gs k p a c) k' = psOf gs k' ++ if k' = k then [p] else [] := by
  induction gs with
  | nil => simp only [gadd, psOf_cons, psOf_nil]; split <;> simp_all
  | cons g gs ih =>
    unfold gadd
    by_cases h : k = g.k
    · rw [if_pos h, psOf_cons, psOf_cons]
      by_cases h2 : k' = k
      · simp [h2, ← h]
      · simp [h2, ← h]
    · rw [if_neg h, psOf_cons, psOf_cons, ih]
      by_cases h2 : k' = g.k
      · subst h2
        simp [Ne.symm h]
      · simp [h2]
theorem gadd_keys (gs : List Grp) (k : ByteArray) (p : Nat) (a : Option Addr) (c : Nat) : ∀ x ∈ (gadd gs k p a c).map (·.k), x = k ∨ x ∈ gs.map (·.k) := by
  induction gs with
  | nil => intro x hx; simpa [gadd] using hx
  | cons g gs ih =>
    intro x hx
    unfold gadd at hx
    split at hx
    · simp only [List.map_cons, List.mem_cons] at hx ⊢
      rcases hx with h | h
      · exact .inl h
      · exact .inr (.inr h)
    · simp only [List.map_cons, List.mem_cons] at hx ⊢
      rcases hx with h | h
      · exact .inr (.inl h)
      · rcases ih x h with h | h
        · exact .inl h
        · exact .inr (.inr h)
theorem gadd_nodup {gs : List Grp} (k : ByteArray) (p : Nat) (a : Option Addr) (c : Nat) (h : (gs.map (·.k)).Nodup) : ((gadd gs k p a c).map (·.k)).Nodup := by
  induction gs with
  | nil => simp [gadd]
  | cons g gs ih =>
    rw [List.map_cons, List.nodup_cons] at h
    unfold gadd
    split
    · rename_i hk
      rw [List.map_cons, List.nodup_cons]
      exact ⟨by simpa [hk] using h.1, h.2⟩
    · rename_i hk
      rw [List.map_cons, List.nodup_cons]
      refine ⟨fun hh => ?_, ih h.2⟩
      rcases gadd_keys gs k p a c _ hh with h1 | h1
      · exact hk h1.symm
      · exact h.1 h1
theorem grpM_gadd (gs : List Grp) (k : ByteArray) (p : Nat) (a : Option Addr) (c : Nat) : ups (grpM gs) k (.slice a ((psOf gs k).length + 1) c) = grpM (gadd gs k p a c) := by
  induction gs with
  | nil => rfl
  | cons g gs ih =>
    rw [psOf_cons]
    unfold gadd
    rw [grpM, List.map_cons]
    unfold ups
    by_cases h : k = g.k
    · simp only [if_pos h]
      rw [grpM, List.map_cons]
      simp
    · simp only [if_neg h]
      rw [grpM, List.map_cons]
      congr 1
/-- The row of a key's group, be there one or not. -/
theorem grp_focus (gs : List Grp) (k : ByteArray) : ∃ a0 c0 L, (got (grpM gs) k).getD (.slice none 0 0) = .slice a0 (psOf gs k).length c0 ∧
    ((gs.flatMap grpA).Perm (row 78 1 a0 (psOf gs k).length c0 (ptrs (psOf gs k)) :: L.flatMap grpA) ∨ (a0 = none ∧ c0 = 0 ∧ psOf gs k = [] ∧ L = gs)) ∧
    ∀ a c p, ((gadd gs k p a c).flatMap grpA).Perm (row 78 1 a ((psOf gs k).length + 1) c (ptrs (psOf gs k ++ [p])) :: L.flatMap grpA) := by
  induction gs with
  | nil => exact ⟨none, 0, [], rfl, .inr ⟨rfl, rfl, rfl, rfl⟩, fun a c p => by simp [gadd, grpA, psOf_nil]⟩
  | cons g gs ih =>
    by_cases h : k = g.k
    · refine ⟨g.a, g.c, gs, ?_, .inl ?_, fun a c p => ?_⟩
      · rw [psOf_cons, if_pos h, got, grpM, List.map_cons]
        unfold spot
        rw [if_pos h]
        rfl
      · rw [psOf_cons, if_pos h]
        simp [grpA]
      · rw [psOf_cons, if_pos h]
        unfold gadd
        rw [if_pos h]
        simp [grpA]
    · obtain ⟨a0, c0, L, h1, h2, h3⟩ := ih
      rw [psOf_cons, if_neg h]
      refine ⟨a0, c0, g :: L, ?_, ?_, fun a c p => ?_⟩
      · rw [← h1, got, got, grpM, List.map_cons]
        conv => lhs; unfold spot
        rw [if_neg h, spot_shift, Option.map_map]
        rfl
      · rcases h2 with h2 | ⟨e1, e2, e3, e4⟩
        · left
          rw [List.flatMap_cons, List.flatMap_cons]
          exact (List.Perm.append_left _ h2).trans List.perm_middle
        · right
          exact ⟨e1, e2, e3, by rw [e4]⟩
      · unfold gadd
        rw [if_neg h, List.flatMap_cons, List.flatMap_cons]
        exact (List.Perm.append_left _ (h3 a c p)).trans List.perm_middle
theorem T.apP : appB Tryz.prog 56 78 1 8 = true := by kernel_rfl
theorem perm_in {a b : Hw.Item} {X Y Z : List Hw.Item} (h : X.Perm Y) : (a :: b :: (Y ++ Z)).Perm (a :: b :: (X ++ Z)) := List.Perm.cons _ (List.Perm.cons _ (List.Perm.append_right _ h.symm))

set_option maxRecDepth 10000 in
theorem idxAdd_calls (x : Idx) (e : Ent) (hc : ∀ k ∈ x.col.l, 0 ≤ k ∧ k < e.row.length) (hi : i64s e.row) (h1 : e.row.length ≤ 1099511627776) (h2 : x.col.l.length ≤ 1099511627776) (h3 : (psOf x.gs (ixKey x.col e)).length ≤ 1099511627776) (w : World) (hA : Holds (idxA x ++ (entA e ++ colA x.col)) w) :
  Calls Tryz.prog 36 #[ptr x.p, ptr e.p] w fun en w' => en = .returned (.tuple #[]) ∧ ∃ a c, Turns (idxA x ++ (entA e ++ colA x.col)) (idxA { x with gs := gadd x.gs (ixKey x.col e) e.p a c } ++ (entA e ++ colA x.col)) w w' := by
  refine enterA hA (args := [ptr x.p, ptr e.p]) Tryz.func36 rfl Tryz.ntmps36 rfl rfl ?_
  refine WC.seq ?_
  refine WC.weak (S' := Sat w (DD (idxA x ++ (entA e ++ colA x.col))) (fun b => b < w.heap.size ∧ ¬ DD (idxA x ++ (entA e ++ colA x.col)) b) w (own x.p (.cells (idxC x).toArray 74 (0, 0)) :: own x.mb (mapK Value.string (grpM x.gs)) :: own e.p (.cells (entC e).toArray 80 (0, 0)) :: row 3 1 e.a e.row.length e.c (ints e.row) :: row 3 1 x.col.a x.col.l.length x.col.c (ints x.col.l) :: x.gs.flatMap grpA)) (fun w' hw => hw.perm (List.Perm.cons _ (List.Perm.cons _ (List.perm_append_comm (l₁ := [_, _, _]))))) ?_
  refine WC.selfB [8] (by kernel_rfl) (by kernel_rfl) (m := 11) rfl ?_
  refine WH.free 0 rfl (by kernel_rfl) (by kernel_rfl) (by kernel_rfl) rfl (fun _ => (fun _ h => h)) (OV.move rfl) rfl (listed' := [true, false, false, false, false, false, false, false, false, false, false]) rfl ?_
  refine WH.free 1 rfl (by kernel_rfl) (by kernel_rfl) (by kernel_rfl) rfl (fun _ => (fun _ h => h)) (OV.nilCheck rfl) rfl (listed' := [true, true, false, false, false, false, false, false, false, false, false]) rfl ?_
  first
  | (refine WH.free 2 rfl (by kernel_rfl) (by kernel_rfl) (by kernel_rfl) rfl (fun _ => (fun _ h => h)) (OV.fieldAddr0 (off := 0) rfl T.u80 rfl) rfl (listed' := [true, true, true, false, false, false, false, false, false, false, false]) rfl ?_)
  | (refine WH.free 2 rfl (by kernel_rfl) (by kernel_rfl) (by kernel_rfl) rfl (fun _ => (fun _ h => h)) (OV.fieldAddr (off := 0) rfl T.u80 rfl) rfl (listed' := [true, true, true, false, false, false, false, false, false, false, false]) rfl ?_)
  refine WH.take 3 rfl (by kernel_rfl) (by kernel_rfl) (by kernel_rfl) (by kernel_rfl) (fun _ h => h) (OV.load1 (v := .slice e.a e.row.length e.c) rfl T.u32 rfl (fun _ hw => (cell_at (hw.it (own e.p (.cells (entC e).toArray 80 (0, 0))) (by first | exact .head _ | exact .tail _ (.head _) | exact .tail _ (.tail _ (.head _)) | exact .tail _ (.tail _ (.tail _ (.head _))) | exact .tail _ (.tail _ (.tail _ (.tail _ (.head _)))))) (o := 0) rfl).1)) rfl (listed' := [true, true, true, true, false, false, false, false, false, false, false]) rfl ?_
  refine WH.free 4 rfl (by kernel_rfl) (by kernel_rfl) (by kernel_rfl) rfl (fun _ => (fun _ h => h)) (OV.move rfl) rfl (listed' := [true, true, true, true, true, false, false, false, false, false, false]) rfl ?_
  refine WH.free 5 rfl (by kernel_rfl) (by kernel_rfl) (by kernel_rfl) rfl (fun _ => (fun _ h => h)) (OV.nilCheck rfl) rfl (listed' := [true, true, true, true, true, true, false, false, false, false, false]) rfl ?_
  first
  | (refine WH.free 6 rfl (by kernel_rfl) (by kernel_rfl) (by kernel_rfl) rfl (fun _ => (fun _ h => h)) (OV.fieldAddr0 (off := 0) rfl T.u74 rfl) rfl (listed' := [true, true, true, true, true, true, true, false, false, false, false]) rfl ?_)
  | (refine WH.free 6 rfl (by kernel_rfl) (by kernel_rfl) (by kernel_rfl) rfl (fun _ => (fun _ h => h)) (OV.fieldAddr (off := 0) rfl T.u74 rfl) rfl (listed' := [true, true, true, true, true, true, true, false, false, false, false]) rfl ?_)
  refine WH.take 7 rfl (by kernel_rfl) (by kernel_rfl) (by kernel_rfl) (by kernel_rfl) (fun _ h => h) (OV.load1 (v := .slice x.col.a x.col.l.length x.col.c) rfl T.u32 rfl (fun _ hw => (cell_at (hw.it (own x.p (.cells (idxC x).toArray 74 (0, 0))) (by first | exact .head _ | exact .tail _ (.head _) | exact .tail _ (.tail _ (.head _)) | exact .tail _ (.tail _ (.tail _ (.head _))) | exact .tail _ (.tail _ (.tail _ (.tail _ (.head _)))))) (o := 0) rfl).1)) rfl (listed' := [true, true, true, true, true, true, true, true, false, false, false]) rfl ?_
  refine WH.only 8 rfl (by kernel_rfl) (listed' := [true, true, true, true, true, true, true, true, true, false, false]) rfl (fl' := true) rfl ?_
  refine WL.callF (ι := Option Addr × Nat) (vv := fun q => .slice q.1 x.col.l.length q.2) (pp := fun _ => True) (it := fun q => row 3 1 q.1 x.col.l.length q.2 (ints (pickL e.row x.col.l))) (by kernel_rfl) rfl rfl (fun w' hw => (picked_calls e.row x.col.l e.a e.row.length e.c x.col.a x.col.l.length x.col.c hc h2 h1 w' (RI.of_row hw (by first | exact .head _ | exact .tail _ (.head _) | exact .tail _ (.tail _ (.head _)) | exact .tail _ (.tail _ (.tail _ (.head _))) | exact .tail _ (.tail _ (.tail _ (.tail _ (.head _)))))) (RI.of_row hw (by first | exact .head _ | exact .tail _ (.head _) | exact .tail _ (.tail _ (.head _)) | exact .tail _ (.tail _ (.tail _ (.head _))) | exact .tail _ (.tail _ (.tail _ (.tail _ (.head _))))))).mono (fun en w'' ⟨a', c', q1, q2, q3⟩ => ⟨(a', c'), q1, trivial, q2, q3⟩)) ?_
  rintro ⟨ap, cp⟩ _
  refine WL.nil ?_
  refine WX.contD (by kernel_rfl) (fun h => by cases h) ?_
  refine WH.only 9 rfl (by kernel_rfl) (listed' := [true, true, true, true, true, true, true, true, true, true, false]) rfl (fl' := true) rfl ?_
  refine WL.call0 (by kernel_rfl) rfl rfl (fun w' hw => key_calls (pickL e.row x.col.l) ap x.col.l.length cp (pickL_i64s hi hc) h2 w' (by have := RI.of_row (l := pickL e.row x.col.l) (a := ap) (c := cp) hw (by rw [pickL_length]; exact .head _); rwa [pickL_length] at this)) ?_
  refine WL.nil ?_
  refine WX.contD (by kernel_rfl) (fun h => by cases h) ?_
  refine WH.free 10 rfl (by kernel_rfl) (by kernel_rfl) (by kernel_rfl) rfl (fun h => by cases h) (OV.assign rfl) rfl (listed' := [true, true, true, true, true, true, true, true, true, true, true]) rfl ?_
  refine WH.done (by kernel_rfl) ?_
  refine WX.next ?_
  obtain ⟨a0, c0, L, hgot, hfoc, hnew⟩ := grp_focus x.gs (ixKey x.col e)
  refine WC.weak (S' := Sat w (DD (idxA x ++ (entA e ++ colA x.col))) (fun b => b < w.heap.size ∧ ¬ DD (idxA x ++ (entA e ++ colA x.col)) b) w (row 78 1 a0 (psOf x.gs (ixKey x.col e)).length c0 (ptrs (psOf x.gs (ixKey x.col e))) :: own x.p (.cells (idxC x).toArray 74 (0, 0)) :: own x.mb (mapK Value.string (grpM x.gs)) :: own e.p (.cells (entC e).toArray 80 (0, 0)) :: row 3 1 e.a e.row.length e.c (ints e.row) :: row 3 1 x.col.a x.col.l.length x.col.c (ints x.col.l) :: L.flatMap grpA)) (fun w' hw => ?_) ?_
  · have h1 := hw.drop
    rcases hfoc with hp | ⟨rfl, rfl, e3, rfl⟩
    · exact h1.perm (List.Perm.trans (perm5 (g := row 78 1 a0 (psOf x.gs (ixKey x.col e)).length c0 (ptrs (psOf x.gs (ixKey x.col e))))) (List.Perm.cons _ (List.Perm.cons _ (List.Perm.cons _ (List.Perm.cons _ (List.Perm.cons _ hp.symm))))))
    · rw [e3]
      exact h1.rowNil 78 1
  refine WC.drawn (fun w' => w'.heap[x.p]? = some (.cells (idxC x).toArray 74 (0, 0)) ∧ w'.heap[x.mb]? = some (mapK Value.string (grpM x.gs))) [14] (by kernel_rfl) (by kernel_rfl) (m := 15) rfl ?_
  refine WH.free 0 rfl (by kernel_rfl) (by kernel_rfl) (by kernel_rfl) rfl (fun _ => (fun _ hw => ⟨hw.it (own x.p (.cells (idxC x).toArray 74 (0, 0))) (by first | exact .head _ | exact .tail _ (.head _) | exact .tail _ (.tail _ (.head _)) | exact .tail _ (.tail _ (.tail _ (.head _))) | exact .tail _ (.tail _ (.tail _ (.tail _ (.head _))))), hw.it (own x.mb (mapK Value.string (grpM x.gs))) (by first | exact .head _ | exact .tail _ (.head _) | exact .tail _ (.tail _ (.head _)) | exact .tail _ (.tail _ (.tail _ (.head _))) | exact .tail _ (.tail _ (.tail _ (.tail _ (.head _)))))⟩)) (OV.move rfl) rfl (listed' := [true, false, false, false, false, false, false, false, false, false, false, false, false, false, false]) rfl ?_
  refine WH.free 1 rfl (by kernel_rfl) (by kernel_rfl) (by kernel_rfl) rfl (fun _ => (fun _ hw => ⟨hw.it (own x.p (.cells (idxC x).toArray 74 (0, 0))) (by first | exact .head _ | exact .tail _ (.head _) | exact .tail _ (.tail _ (.head _)) | exact .tail _ (.tail _ (.tail _ (.head _))) | exact .tail _ (.tail _ (.tail _ (.tail _ (.head _))))), hw.it (own x.mb (mapK Value.string (grpM x.gs))) (by first | exact .head _ | exact .tail _ (.head _) | exact .tail _ (.tail _ (.head _)) | exact .tail _ (.tail _ (.tail _ (.head _))) | exact .tail _ (.tail _ (.tail _ (.tail _ (.head _)))))⟩)) (OV.nilCheck rfl) rfl (listed' := [true, true, false, false, false, false, false, false, false, false, false, false, false, false, false]) rfl ?_
  first
  | (refine WH.free 2 rfl (by kernel_rfl) (by kernel_rfl) (by kernel_rfl) rfl (fun _ => (fun _ hw => ⟨hw.it (own x.p (.cells (idxC x).toArray 74 (0, 0))) (by first | exact .head _ | exact .tail _ (.head _) | exact .tail _ (.tail _ (.head _)) | exact .tail _ (.tail _ (.tail _ (.head _))) | exact .tail _ (.tail _ (.tail _ (.tail _ (.head _))))), hw.it (own x.mb (mapK Value.string (grpM x.gs))) (by first | exact .head _ | exact .tail _ (.head _) | exact .tail _ (.tail _ (.head _)) | exact .tail _ (.tail _ (.tail _ (.head _))) | exact .tail _ (.tail _ (.tail _ (.tail _ (.head _)))))⟩)) (OV.fieldAddr0 (off := 1) rfl T.u74 rfl) rfl (listed' := [true, true, true, false, false, false, false, false, false, false, false, false, false, false, false]) rfl ?_)
  | (refine WH.free 2 rfl (by kernel_rfl) (by kernel_rfl) (by kernel_rfl) rfl (fun _ => (fun _ hw => ⟨hw.it (own x.p (.cells (idxC x).toArray 74 (0, 0))) (by first | exact .head _ | exact .tail _ (.head _) | exact .tail _ (.tail _ (.head _)) | exact .tail _ (.tail _ (.tail _ (.head _))) | exact .tail _ (.tail _ (.tail _ (.tail _ (.head _))))), hw.it (own x.mb (mapK Value.string (grpM x.gs))) (by first | exact .head _ | exact .tail _ (.head _) | exact .tail _ (.tail _ (.head _)) | exact .tail _ (.tail _ (.tail _ (.head _))) | exact .tail _ (.tail _ (.tail _ (.tail _ (.head _)))))⟩)) (OV.fieldAddr (off := 1) rfl T.u74 rfl) rfl (listed' := [true, true, true, false, false, false, false, false, false, false, false, false, false, false, false]) rfl ?_)
  refine WH.take 3 rfl (by kernel_rfl) (by kernel_rfl) (by kernel_rfl) (by kernel_rfl) (fun _ hw => ⟨hw.it (own x.p (.cells (idxC x).toArray 74 (0, 0))) (by first | exact .head _ | exact .tail _ (.head _) | exact .tail _ (.tail _ (.head _)) | exact .tail _ (.tail _ (.tail _ (.head _))) | exact .tail _ (.tail _ (.tail _ (.tail _ (.head _))))), hw.it (own x.mb (mapK Value.string (grpM x.gs))) (by first | exact .head _ | exact .tail _ (.head _) | exact .tail _ (.tail _ (.head _)) | exact .tail _ (.tail _ (.tail _ (.head _))) | exact .tail _ (.tail _ (.tail _ (.tail _ (.head _)))))⟩) (OV.load1 (v := .map (some x.mb)) rfl T.u72 rfl (fun _ hw => (cell_at hw.1 (o := 1) rfl).1)) rfl (listed' := [true, true, true, true, false, false, false, false, false, false, false, false, false, false, false]) rfl ?_
  refine WH.free 4 rfl (by kernel_rfl) (by kernel_rfl) (by kernel_rfl) rfl (fun _ => (fun _ hw => ⟨hw.it (own x.p (.cells (idxC x).toArray 74 (0, 0))) (by first | exact .head _ | exact .tail _ (.head _) | exact .tail _ (.tail _ (.head _)) | exact .tail _ (.tail _ (.tail _ (.head _))) | exact .tail _ (.tail _ (.tail _ (.tail _ (.head _))))), hw.it (own x.mb (mapK Value.string (grpM x.gs))) (by first | exact .head _ | exact .tail _ (.head _) | exact .tail _ (.tail _ (.head _)) | exact .tail _ (.tail _ (.tail _ (.head _))) | exact .tail _ (.tail _ (.tail _ (.tail _ (.head _)))))⟩)) (OV.move rfl) rfl (listed' := [true, true, true, true, true, false, false, false, false, false, false, false, false, false, false]) rfl ?_
  refine WH.free 5 rfl (by kernel_rfl) (by kernel_rfl) (by kernel_rfl) rfl (fun _ => (fun _ hw => ⟨hw.it (own x.p (.cells (idxC x).toArray 74 (0, 0))) (by first | exact .head _ | exact .tail _ (.head _) | exact .tail _ (.tail _ (.head _)) | exact .tail _ (.tail _ (.tail _ (.head _))) | exact .tail _ (.tail _ (.tail _ (.tail _ (.head _))))), hw.it (own x.mb (mapK Value.string (grpM x.gs))) (by first | exact .head _ | exact .tail _ (.head _) | exact .tail _ (.tail _ (.head _)) | exact .tail _ (.tail _ (.tail _ (.head _))) | exact .tail _ (.tail _ (.tail _ (.tail _ (.head _)))))⟩)) (OV.move rfl) rfl (listed' := [true, true, true, true, true, true, false, false, false, false, false, false, false, false, false]) rfl ?_
  refine WH.free 6 rfl (by kernel_rfl) (by kernel_rfl) (by kernel_rfl) rfl (fun _ => (fun _ hw => ⟨hw.it (own x.p (.cells (idxC x).toArray 74 (0, 0))) (by first | exact .head _ | exact .tail _ (.head _) | exact .tail _ (.tail _ (.head _)) | exact .tail _ (.tail _ (.tail _ (.head _))) | exact .tail _ (.tail _ (.tail _ (.tail _ (.head _))))), hw.it (own x.mb (mapK Value.string (grpM x.gs))) (by first | exact .head _ | exact .tail _ (.head _) | exact .tail _ (.tail _ (.head _)) | exact .tail _ (.tail _ (.tail _ (.head _))) | exact .tail _ (.tail _ (.tail _ (.tail _ (.head _)))))⟩)) (OV.nilCheck rfl) rfl (listed' := [true, true, true, true, true, true, true, false, false, false, false, false, false, false, false]) rfl ?_
  first
  | (refine WH.free 7 rfl (by kernel_rfl) (by kernel_rfl) (by kernel_rfl) rfl (fun _ => (fun _ hw => ⟨hw.it (own x.p (.cells (idxC x).toArray 74 (0, 0))) (by first | exact .head _ | exact .tail _ (.head _) | exact .tail _ (.tail _ (.head _)) | exact .tail _ (.tail _ (.tail _ (.head _))) | exact .tail _ (.tail _ (.tail _ (.tail _ (.head _))))), hw.it (own x.mb (mapK Value.string (grpM x.gs))) (by first | exact .head _ | exact .tail _ (.head _) | exact .tail _ (.tail _ (.head _)) | exact .tail _ (.tail _ (.tail _ (.head _))) | exact .tail _ (.tail _ (.tail _ (.tail _ (.head _)))))⟩)) (OV.fieldAddr0 (off := 1) rfl T.u74 rfl) rfl (listed' := [true, true, true, true, true, true, true, true, false, false, false, false, false, false, false]) rfl ?_)
  | (refine WH.free 7 rfl (by kernel_rfl) (by kernel_rfl) (by kernel_rfl) rfl (fun _ => (fun _ hw => ⟨hw.it (own x.p (.cells (idxC x).toArray 74 (0, 0))) (by first | exact .head _ | exact .tail _ (.head _) | exact .tail _ (.tail _ (.head _)) | exact .tail _ (.tail _ (.tail _ (.head _))) | exact .tail _ (.tail _ (.tail _ (.tail _ (.head _))))), hw.it (own x.mb (mapK Value.string (grpM x.gs))) (by first | exact .head _ | exact .tail _ (.head _) | exact .tail _ (.tail _ (.head _)) | exact .tail _ (.tail _ (.tail _ (.head _))) | exact .tail _ (.tail _ (.tail _ (.tail _ (.head _)))))⟩)) (OV.fieldAddr (off := 1) rfl T.u74 rfl) rfl (listed' := [true, true, true, true, true, true, true, true, false, false, false, false, false, false, false]) rfl ?_)
  refine WH.take 8 rfl (by kernel_rfl) (by kernel_rfl) (by kernel_rfl) (by kernel_rfl) (fun _ hw => ⟨hw.it (own x.p (.cells (idxC x).toArray 74 (0, 0))) (by first | exact .head _ | exact .tail _ (.head _) | exact .tail _ (.tail _ (.head _)) | exact .tail _ (.tail _ (.tail _ (.head _))) | exact .tail _ (.tail _ (.tail _ (.tail _ (.head _))))), hw.it (own x.mb (mapK Value.string (grpM x.gs))) (by first | exact .head _ | exact .tail _ (.head _) | exact .tail _ (.tail _ (.head _)) | exact .tail _ (.tail _ (.tail _ (.head _))) | exact .tail _ (.tail _ (.tail _ (.tail _ (.head _)))))⟩) (OV.load1 (v := .map (some x.mb)) rfl T.u72 rfl (fun _ hw => (cell_at hw.1 (o := 1) rfl).1)) rfl (listed' := [true, true, true, true, true, true, true, true, true, false, false, false, false, false, false]) rfl ?_
  refine WH.free 9 rfl (by kernel_rfl) (by kernel_rfl) (by kernel_rfl) rfl (fun _ => (fun _ hw => ⟨hw.it (own x.p (.cells (idxC x).toArray 74 (0, 0))) (by first | exact .head _ | exact .tail _ (.head _) | exact .tail _ (.tail _ (.head _)) | exact .tail _ (.tail _ (.tail _ (.head _))) | exact .tail _ (.tail _ (.tail _ (.tail _ (.head _))))), hw.it (own x.mb (mapK Value.string (grpM x.gs))) (by first | exact .head _ | exact .tail _ (.head _) | exact .tail _ (.tail _ (.head _)) | exact .tail _ (.tail _ (.tail _ (.head _))) | exact .tail _ (.tail _ (.tail _ (.tail _ (.head _)))))⟩)) (OV.move rfl) rfl (listed' := [true, true, true, true, true, true, true, true, true, true, false, false, false, false, false]) rfl ?_
  refine WH.take 10 rfl (by kernel_rfl) (by kernel_rfl) (by kernel_rfl) (by kernel_rfl) (fun _ hw => ⟨hw.it (own x.p (.cells (idxC x).toArray 74 (0, 0))) (by first | exact .head _ | exact .tail _ (.head _) | exact .tail _ (.tail _ (.head _)) | exact .tail _ (.tail _ (.tail _ (.head _))) | exact .tail _ (.tail _ (.tail _ (.tail _ (.head _))))), hw.it (own x.mb (mapK Value.string (grpM x.gs))) (by first | exact .head _ | exact .tail _ (.head _) | exact .tail _ (.tail _ (.head _)) | exact .tail _ (.tail _ (.tail _ (.head _))) | exact .tail _ (.tail _ (.tail _ (.tail _ (.head _)))))⟩) ((OV.lookup (KeyLaw.str T.u9) T.u72 (by kernel_rfl) rfl rfl (fun _ hw => hw.2)).cast hgot) rfl (listed' := [true, true, true, true, true, true, true, true, true, true, true, false, false, false, false]) rfl ?_
  refine WH.free 11 rfl (by kernel_rfl) (by kernel_rfl) (by kernel_rfl) rfl (fun _ => (fun _ hw => ⟨hw.it (own x.p (.cells (idxC x).toArray 74 (0, 0))) (by first | exact .head _ | exact .tail _ (.head _) | exact .tail _ (.tail _ (.head _)) | exact .tail _ (.tail _ (.tail _ (.head _))) | exact .tail _ (.tail _ (.tail _ (.tail _ (.head _))))), hw.it (own x.mb (mapK Value.string (grpM x.gs))) (by first | exact .head _ | exact .tail _ (.head _) | exact .tail _ (.tail _ (.head _)) | exact .tail _ (.tail _ (.tail _ (.head _))) | exact .tail _ (.tail _ (.tail _ (.tail _ (.head _)))))⟩)) (OV.move rfl) rfl (listed' := [true, true, true, true, true, true, true, true, true, true, true, true, false, false, false]) rfl ?_
  refine WH.only 12 rfl (by kernel_rfl) (listed' := [true, true, true, true, true, true, true, true, true, true, true, true, true, false, false]) rfl (fl' := false) rfl ?_
  refine WL.buildSlice1 T.u56 T.z78 T.zr78 rfl rfl rfl ?_
  intro b27
  refine WL.nil ?_
  refine WX.contD (by kernel_rfl) (fun _ => (fun _ hw => ⟨hw.it (own x.p (.cells (idxC x).toArray 74 (0, 0))) (by first | exact .head _ | exact .tail _ (.head _) | exact .tail _ (.tail _ (.head _)) | exact .tail _ (.tail _ (.tail _ (.head _))) | exact .tail _ (.tail _ (.tail _ (.tail _ (.head _))))), hw.it (own x.mb (mapK Value.string (grpM x.gs))) (by first | exact .head _ | exact .tail _ (.head _) | exact .tail _ (.tail _ (.head _)) | exact .tail _ (.tail _ (.tail _ (.head _))) | exact .tail _ (.tail _ (.tail _ (.tail _ (.head _)))))⟩)) ?_
  refine WH.only 13 rfl (by kernel_rfl) (listed' := [true, true, true, true, true, true, true, true, true, true, true, true, true, true, false]) rfl (fl' := false) rfl ?_
  refine WL.focus perm1 (WL.append (news := [ptr e.p]) rfl rfl T.apP (fun _ _ => own_src (.tail _ (.head _)) rfl) (by simp [Value.oneCell', ptr]) ⟨by omega, by unfold maxLen; omega⟩ rfl ?_)
  intro a28 c28
  refine WL.nil ?_
  refine WX.contD (by kernel_rfl) (fun _ => (fun _ hw => ⟨hw.it (own x.p (.cells (idxC x).toArray 74 (0, 0))) (by first | exact .head _ | exact .tail _ (.head _) | exact .tail _ (.tail _ (.head _)) | exact .tail _ (.tail _ (.tail _ (.head _))) | exact .tail _ (.tail _ (.tail _ (.tail _ (.head _))))), hw.it (own x.mb (mapK Value.string (grpM x.gs))) (by first | exact .head _ | exact .tail _ (.head _) | exact .tail _ (.tail _ (.head _)) | exact .tail _ (.tail _ (.tail _ (.head _))) | exact .tail _ (.tail _ (.tail _ (.tail _ (.head _)))))⟩)) ?_
  refine WH.only 14 rfl (by kernel_rfl) (listed' := [true, true, true, true, true, true, true, true, true, true, true, true, true, true, true]) rfl (fl' := true) rfl ?_
  first
  | (refine WL.mapUpdate (KeyLaw.str T.u9) T.u72 rfl rfl rfl ?_)
  | (refine WL.focus perm1 (WL.mapUpdate (KeyLaw.str T.u9) T.u72 rfl rfl rfl ?_))
  | (refine WL.focus perm2 (WL.mapUpdate (KeyLaw.str T.u9) T.u72 rfl rfl rfl ?_))
  | (refine WL.focus perm3 (WL.mapUpdate (KeyLaw.str T.u9) T.u72 rfl rfl rfl ?_))
  refine WL.nil ?_
  refine WX.contD (by kernel_rfl) (fun h => by cases h) ?_
  refine WH.done (by kernel_rfl) ?_
  exact WX.ret0 rfl rfl (fun w' hw => ⟨rfl, a28, c28, by
    have h1 := (hw.perm perm2).drop
    have hl : ptrs (psOf x.gs (ixKey x.col e)) ++ [ptr e.p] = ptrs (psOf x.gs (ixKey x.col e) ++ [e.p]) := by simp [ptrs]
    have hkk : keyB (pickL e.row x.col.l) = ixKey x.col e := rfl
    rw [hl, hkk, grpM_gadd] at h1
    refine (h1.perm (ow' := idxA { x with gs := gadd x.gs (ixKey x.col e) e.p a28 c28 } ++ (entA e ++ colA x.col)) ?_).turned
    refine (List.Perm.cons _ (List.Perm.cons _ (List.Perm.append_right _ (hnew a28 c28 e.p)))).trans ?_
    exact perm2.trans (List.Perm.cons _ (List.Perm.cons _ (List.Perm.cons _ (List.perm_append_comm (l₂ := [_, _, _])))))⟩)

end Go.Proofs.YtijplknkpkmblaaGreatDoor
