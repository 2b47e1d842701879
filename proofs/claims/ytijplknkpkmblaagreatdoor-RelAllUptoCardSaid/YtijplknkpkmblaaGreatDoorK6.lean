/- Contracts of functions of the program: what each returns and leaves in memory. Printed by gen.py and walk.py. -/
import Derived.Test.YtijplknkpkmblaaGreatDoorK5
namespace Go.Proofs.YtijplknkpkmblaaGreatDoor
open Go Go.Hw
set_option linter.unusedSimpArgs false
set_option linter.unusedVariables false
set_option maxRecDepth 10000 in
theorem new_neg (wd : Int) (h : wd < 0) (w : World) : Calls Tryz.prog 11 #[.int .i64 wd] w fun e w' => e = .returned (.tuple #[.pointer none, .int .i64 71]) ∧ Fr0 w w' := by
  refine enterS (args := [.int .i64 wd]) (fun _ => False) Tryz.func11 rfl Tryz.ntmps11 rfl rfl ?_
  refine WC.seq ?_
  refine WC.region ?_
  refine WL.val (OV.assign rfl) rfl ?_
  refine WL.val (OV.assign rfl) rfl ?_
  refine WL.nil ?_
  refine WX.next ?_
  refine WC.seq ?_
  refine WC.seq ?_
  refine WC.region ?_
  refine WL.val (OV.move rfl) rfl ?_
  refine WL.val (OV.lss rfl rfl) rfl ?_
  refine WL.nil ?_
  refine WX.next ?_
  refine WC.condT (show _ = some (Value.bool true) from by exact congrArg (fun b => some (Value.bool b)) (decide_eq_true h)) ?_
  refine WC.seq ?_
  refine WC.region ?_
  refine WL.val (OV.assign rfl) rfl ?_
  refine WL.val (OV.assign rfl) rfl ?_
  refine WL.nil ?_
  refine WX.next ?_
  refine WC.ret ?_
  refine WX.then_ret ?_
  exact WX.ret2 rfl rfl rfl rfl (fun w hw => ⟨rfl, hw.fr⟩)

set_option maxRecDepth 10000 in
theorem new_calls (wd : Nat) (w : World) : Calls Tryz.prog 11 #[.int .i64 (wd : Int)] w fun e w' => ∃ r mb ib, e = .returned (.tuple #[ptr r, .int .i64 0]) ∧ Turns [] (relA (RelG.empty r mb ib wd)) w w' := by
  refine enterA (show Holds [] w from ⟨fun _ h => (by cases h), fun _ h => (by cases h), .nil⟩) (args := [.int .i64 (wd : Int)]) Tryz.func11 rfl Tryz.ntmps11 rfl rfl ?_
  refine WC.seq ?_
  refine WC.region ?_
  refine WL.val (OV.assign rfl) rfl ?_
  refine WL.val (OV.assign rfl) rfl ?_
  refine WL.nil ?_
  refine WX.next ?_
  refine WC.seq ?_
  refine WC.seq ?_
  refine WC.region ?_
  refine WL.val (OV.move rfl) rfl ?_
  refine WL.val (OV.lss rfl rfl) rfl ?_
  refine WL.nil ?_
  refine WX.next ?_
  refine WC.condF (show _ = some (Value.bool false) from by exact congrArg (fun b => some (Value.bool b)) (decide_eq_false (by omega))) ?_
  refine WC.skip ?_
  refine WX.next ?_
  refine WC.seq ?_
  refine WC.region ?_
  refine WL.val (OV.move rfl) rfl ?_
  refine WL.makeMap (Value.string) rfl ?_
  intro m7
  refine WL.makeMap (Value.string) rfl ?_
  intro m8
  refine WL.val (OV.buildStruct (xs := [(0, .tmp 6), (1, .tmp 7), (5, .tmp 8)]) (pl := [(0, 1), (1, 1), (2, 1), (3, 1), (4, 8), (12, 1), (13, 2)]) (cs := hdC wd m7 (.slice none 0 0) (.slice none 0 0) (counts []) m8) T.u66 T.zr66 (by kernel_rfl) rfl (fill_cons (us := [_]) rfl rfl (by first | decide | simp) (fill_cons (us := [_]) rfl rfl (by first | decide | simp) (fill_cons (us := [_]) rfl rfl (by first | decide | simp) rfl)))) rfl ?_
  refine WL.box rfl rfl rfl ?_
  intro b10
  refine WL.val (OV.assign rfl) rfl ?_
  refine WL.val (OV.assign rfl) rfl ?_
  refine WL.nil ?_
  refine WX.next ?_
  refine WC.ret ?_
  exact WX.ret2 rfl rfl rfl rfl (fun w' hw => ⟨b10, m7, m8, rfl, by
    have h1 := hw.rowNil 78 1
    have h2 := h1.rowNil 78 1
    have h3 := h2.perm (ow' := relA (RelG.empty b10 m7 m8 wd)) (List.Perm.trans (perm2 (ow := _)) (List.reverse_perm [_, _, _, _, _]))
    exact h3.turned⟩)

theorem snapH {w w' : World} {M : Nat → Prop} {ow : List Hw.Item} (h : Sat w M (fun b => b < w.heap.size) w ow w') {b : Nat} {o : Obj} (hb : w.heap[b]? = some o) : w'.heap[b]? = some o :=
  ((h.snap b (Array.getElem?_eq_some_iff.1 hb).1).2).trans hb
theorem spot_map {es : List Ent} {l : List Int} : ∀ i, (spot (rowsM es) (keyB l) i).map (·.2) = (es.find? fun e => e.row = l).map fun e => ptr e.p := by
  induction es with
  | nil => intro i; rfl
  | cons e es ih =>
    intro i
    rw [rowsM, List.map_cons]
    unfold spot
    by_cases h : e.row = l
    · rw [if_pos (by rw [h])]
      simp [h]
    · rw [if_neg (fun h2 => h (keyB_inj h2).symm)]
      rw [List.find?_cons_of_neg (by simpa using h)]
      exact ih (i + 1)
theorem rowsM_got (es : List Ent) (l : List Int) : (got (rowsM es) (keyB l)).getD (.pointer none) = .pointer ((es.find? fun e => e.row = l).map fun e => ⟨e.p, 0, none⟩) := by
  rw [got, spot_map]
  cases es.find? fun e => e.row = l <;> rfl
def partOf (es : List Ent) (l : List Int) : Nat := ((es.find? fun e => e.row = l).map (·.part)).getD 0
theorem relA_hd {g : RelG} {w : World} (h : Holds (relA g) w) : w.heap[g.r]? = some (.cells (hdC g.width g.mb (fslice g) (nslice g) (counts g.es) g.ib).toArray 66 (0, 0)) := h.φ _ (.head _)
theorem relA_mb {g : RelG} {w : World} (h : Holds (relA g) w) : w.heap[g.mb]? = some (mapK Value.string (rowsM g.es)) := h.φ _ (.tail _ (.head _))
theorem relA_ib {g : RelG} {w : World} (h : Holds (relA g) w) : w.heap[g.ib]? = some (mapK Value.string (ixM g.ix)) := h.φ _ (.tail _ (.tail _ (.head _)))
theorem relA_ent {g : RelG} {w : World} (h : Holds (relA g) w) {e : Ent} (he : e ∈ g.es) : w.heap[e.p]? = some (.cells (entC e).toArray 80 (0, 0)) :=
  h.φ _ (.tail _ (.tail _ (.tail _ (.tail _ (.tail _ (own_mem_ent he))))))

set_option maxRecDepth 10000 in
theorem part_calls (g : RelG) (ok : RelOK g) (l : List Int) (a : Option Addr) (m c : Nat) (hi : i64s l) (hm : m ≤ 1099511627776) (w : World) (hr : RI w a m l) (hA : Holds (relA g) w) :
  Calls Tryz.prog 16 #[.pointer (some ⟨g.r, 0, none⟩), .slice a m c] w fun e w' => e = .returned (.int .i64 (partOf g.es l : Int)) ∧ Fr0 w w' := by
  refine enterS (args := [.pointer (some ⟨g.r, 0, none⟩), .slice a m c]) (fun _ => False) Tryz.func16 rfl Tryz.ntmps16 rfl rfl ?_
  refine WC.seq ?_
  refine WC.region ?_
  refine WL.val (OV.assign rfl) rfl ?_
  refine WL.nil ?_
  refine WX.next ?_
  refine WC.seq ?_
  refine WC.seq ?_
  refine WC.region ?_
  refine WL.val (OV.move rfl) rfl ?_
  first
  | (refine WL.val (OV.lenSlice rfl T.u32) rfl ?_)
  | (refine WL.val (OV.lenStr rfl T.u32) rfl ?_)
  refine WL.val (OV.move rfl) rfl ?_
  refine WL.val (OV.nilCheck rfl) rfl ?_
  first
  | (refine WL.val (OV.fieldAddr0 (off := 0) rfl T.u66 rfl) rfl ?_)
  | (refine WL.val (OV.fieldAddr (off := 0) rfl T.u66 rfl) rfl ?_)
  refine WL.val (OV.load1 rfl T.u3 rfl (fun _ hw => snapL hw (cell_at (relA_hd hA) (o := 0) rfl).1)) rfl ?_
  refine WL.val (OV.neq rfl rfl) rfl ?_
  refine WL.nil ?_
  refine WX.next ?_
  refine WC.cond rfl (fun c12 => ?_) (fun c12 => ?_)
  · try simp only [decide_eq_true_eq, decide_eq_false_iff_not, Bool.not_eq_true', Bool.not_eq_false'] at c12
    refine WC.seq ?_
    refine WC.region ?_
    refine WL.val (OV.assign rfl) rfl ?_
    refine WL.nil ?_
    refine WX.next ?_
    refine WC.ret ?_
    refine WX.then_ret ?_
    have hne : g.es.find? (fun e => e.row = l) = none := by
      rw [List.find?_eq_none]
      intro e he hh
      have h1 := ok.wid e he
      have h2 := hr.1
      simp only [decide_eq_true_eq] at hh
      rw [hh] at h1
      apply c12
      omega
    exact WX.ret1 rfl rfl rfl (fun w hw => ⟨by rw [partOf, hne]; rfl, hw.fr⟩)
  · try simp only [decide_eq_true_eq, decide_eq_false_iff_not, Bool.not_eq_true', Bool.not_eq_false'] at c12
    refine WC.skip ?_
    refine WX.next ?_
    refine WC.seq ?_
    refine WC.quietS (by kernel_rfl) (by kernel_rfl) (m := 8) rfl ?_
    refine WH.free 0 rfl (by kernel_rfl) (by kernel_rfl) (by kernel_rfl) rfl (fun _ => (fun _ h => h)) (OV.move rfl) rfl (listed' := [true, false, false, false, false, false, false, false]) rfl ?_
    refine WH.free 1 rfl (by kernel_rfl) (by kernel_rfl) (by kernel_rfl) rfl (fun _ => (fun _ h => h)) (OV.nilCheck rfl) rfl (listed' := [true, true, false, false, false, false, false, false]) rfl ?_
    first
    | (refine WH.free 2 rfl (by kernel_rfl) (by kernel_rfl) (by kernel_rfl) rfl (fun _ => (fun _ h => h)) (OV.fieldAddr0 (off := 1) rfl T.u66 rfl) rfl (listed' := [true, true, true, false, false, false, false, false]) rfl ?_)
    | (refine WH.free 2 rfl (by kernel_rfl) (by kernel_rfl) (by kernel_rfl) rfl (fun _ => (fun _ h => h)) (OV.fieldAddr (off := 1) rfl T.u66 rfl) rfl (listed' := [true, true, true, false, false, false, false, false]) rfl ?_)
    refine WH.take 3 rfl (by kernel_rfl) (by kernel_rfl) (by kernel_rfl) (by kernel_rfl) (fun _ h => h) (OV.load1 rfl T.u54 rfl (fun _ hw => snapL hw (cell_at (relA_hd hA) (o := 1) rfl).1)) rfl (listed' := [true, true, true, true, false, false, false, false]) rfl ?_
    refine WH.free 4 rfl (by kernel_rfl) (by kernel_rfl) (by kernel_rfl) rfl (fun _ => (fun _ h => h)) (OV.move rfl) rfl (listed' := [true, true, true, true, true, false, false, false]) rfl ?_
    refine WH.only 5 rfl (by kernel_rfl) (listed' := [true, true, true, true, true, true, false, false]) rfl (fl' := false) rfl ?_
    refine WL.call0 (by kernel_rfl) rfl rfl (fun w' hw => key_calls l a m c hi hm w' (hr.sat hw)) ?_
    refine WL.nil ?_
    refine WX.contD (by kernel_rfl) (fun _ => (fun _ h => h)) ?_
    refine WH.take 6 rfl (by kernel_rfl) (by kernel_rfl) (by kernel_rfl) (by kernel_rfl) (fun _ h => h) ((OV.lookup (KeyLaw.str T.u9) T.u54 (by kernel_rfl) rfl rfl (fun _ hw => snapH hw (relA_mb hA))).cast (rowsM_got g.es l)) rfl (listed' := [true, true, true, true, true, true, true, false]) rfl ?_
    refine WH.free 7 rfl (by kernel_rfl) (by kernel_rfl) (by kernel_rfl) rfl (fun _ => (fun _ h => h)) (OV.assign rfl) rfl (listed' := [true, true, true, true, true, true, true, true]) rfl ?_
    refine WH.done (by kernel_rfl) ?_
    refine WX.next ?_
    refine WC.seq ?_
    refine WC.seq ?_
    refine WC.region ?_
    refine WL.val (OV.move rfl) rfl ?_
    refine WL.val (OV.eqlPN T.u78 rfl rfl) rfl ?_
    refine WL.nil ?_
    refine WX.next ?_
    refine WC.cond rfl (fun c21 => ?_) (fun c21 => ?_)
    · try simp only [decide_eq_true_eq, decide_eq_false_iff_not, Bool.not_eq_true', Bool.not_eq_false'] at c21
      refine WC.seq ?_
      refine WC.region ?_
      refine WL.val (OV.assign rfl) rfl ?_
      refine WL.nil ?_
      refine WX.next ?_
      refine WC.ret ?_
      refine WX.then_ret ?_
      have hne : (g.es.find? fun e => e.row = l) = none := by simpa using c21
      exact WX.ret1 rfl rfl rfl (fun w hw => ⟨by rw [partOf, hne]; rfl, hw.fr⟩)
    · try simp only [decide_eq_true_eq, decide_eq_false_iff_not, Bool.not_eq_true', Bool.not_eq_false'] at c21
      refine WC.skip ?_
      refine WX.next ?_
      refine WC.seq ?_
      obtain ⟨e, hf⟩ : ∃ e, (g.es.find? fun e => e.row = l) = some e := by
        cases h : g.es.find? fun e => e.row = l with
        | none => rw [h] at c21; simp at c21
        | some e => exact ⟨e, rfl⟩
      have he := List.mem_of_find?_eq_some hf
      simp only [hf, Option.map_some]
      refine WC.region ?_
      refine WL.val (OV.move rfl) rfl ?_
      refine WL.val (OV.nilCheck rfl) rfl ?_
      first
      | (refine WL.val (OV.fieldAddr0 (off := 1) rfl T.u80 rfl) rfl ?_)
      | (refine WL.val (OV.fieldAddr (off := 1) rfl T.u80 rfl) rfl ?_)
      refine WL.val (OV.load1 rfl T.u3 rfl (fun _ hw => snapL hw (cell_at (relA_ent hA he) (o := 1) rfl).1)) rfl ?_
      refine WL.val (OV.assign rfl) rfl ?_
      refine WL.nil ?_
      refine WX.next ?_
      refine WC.ret ?_
      exact WX.ret1 rfl rfl rfl (fun w hw => ⟨by rw [partOf, hf]; rfl, hw.fr⟩)

end Go.Proofs.YtijplknkpkmblaaGreatDoor
