/- Contracts of functions of the program: what each returns and leaves in memory. Printed by gen.py and walk.py. -/
import Derived.Test.YtijplknkpkmblaaGreatDoorL0
namespace Go.Proofs.YtijplknkpkmblaaGreatDoor
open Go Go.Hw
set_option linter.unusedSimpArgs false
set_option linter.unusedVariables false
set_option maxRecDepth 10000 in
theorem add_calls (g : RelG) (ok : RelOK g) (l : List Int) (a : Option Addr) (m c : Nat) (hi : i64s l) (hm : m ≤ 1099511627776) (hlen : g.es.length < 1099511627776) (w : World) (hr : RI w a m l) (hne : ∀ b, a = some b → 0 < m → ¬ DD (relA g) b.block) (hA : Holds (relA g) w) :
  Calls Tryz.prog 14 #[ptr g.r, .slice a m c] w fun e w' => e = .returned (.tuple #[.bool (addV g.width (rp g) l), .int .i64 (addE g.width l)]) ∧ ∃ g', rp g' = addRP g.width (rp g) l ∧ RelOK g' ∧ RelLe g g' ∧ Turns (relA g) (relA g') w w' := by
  refine enterA hA (args := [ptr g.r, .slice a m c]) Tryz.func14 rfl Tryz.ntmps14 rfl rfl ?_
  refine WC.seq ?_
  refine WC.region ?_
  refine WL.val (OV.assign rfl) rfl ?_
  refine WL.val (OV.assign rfl) rfl ?_
  refine WL.nil ?_
  refine WX.next ?_
  refine WC.seq ?_
  refine WC.seq ?_
  refine WC.region ?_
  refine WL.val (OV.move rfl) rfl ?_
  first
  | (refine WL.val (OV.lenSlice rfl T.u32) rfl ?_)
  | (refine WL.val (OV.lenStr rfl T.u32) rfl ?_)
  refine WL.val (OV.move rfl) rfl ?_
  refine WL.val (OV.nilCheck rfl) rfl ?_
  first
  | (refine WL.val (OV.fieldAddr0 (off := 0) rfl T.u66 rfl) rfl ?_)
  | (refine WL.val (OV.fieldAddr (off := 0) rfl T.u66 rfl) rfl ?_)
  first
  | (refine WL.val (OV.load1 rfl T.u3 rfl (fun _ hw => cell_own hw (.head _) rfl)) rfl ?_)
  | (refine WL.val (OV.load1 rfl T.u3 rfl (fun _ hw => cell_own hw (.tail _ (.head _)) rfl)) rfl ?_)
  | (refine WL.val (OV.load1 rfl T.u3 rfl (fun _ hw => cell_own hw (.tail _ (.tail _ (.head _))) rfl)) rfl ?_)
  | (refine WL.val (OV.load1 rfl T.u3 rfl (fun _ hw => cell_own hw (.tail _ (.tail _ (.tail _ (.head _)))) rfl)) rfl ?_)
  | (refine WL.val (OV.load1 rfl T.u3 rfl (fun _ hw => cell_own hw (.tail _ (.tail _ (.tail _ (.tail _ (.head _))))) rfl)) rfl ?_)
  refine WL.val (OV.neq rfl rfl) rfl ?_
  refine WL.nil ?_
  refine WX.next ?_
  refine WC.cond rfl (fun c16 => ?_) (fun c16 => ?_)
  · try simp only [decide_eq_true_eq, decide_eq_false_iff_not, Bool.not_eq_true', Bool.not_eq_false'] at c16
    refine WC.seq ?_
    refine WC.region ?_
    refine WL.val (OV.assign rfl) rfl ?_
    refine WL.val (OV.assign rfl) rfl ?_
    refine WL.nil ?_
    refine WX.next ?_
    refine WC.ret ?_
    refine WX.then_ret ?_
    have hnw : ¬ l.length = g.width := by have := hr.1; intro h; apply c16; omega
    exact WX.ret2 rfl rfl rfl rfl (fun w' hw => ⟨by rw [addV, addE, if_neg hnw, decide_eq_false (fun h => hnw h.1)], g, by rw [addRP, if_neg (fun h => hnw h.1)], ok, RelLe.refl g, hw.turned⟩)
  · try simp only [decide_eq_true_eq, decide_eq_false_iff_not, Bool.not_eq_true', Bool.not_eq_false'] at c16
    refine WC.skip ?_
    refine WX.next ?_
    refine WC.seq ?_
    refine WC.region ?_
    refine WL.val (OV.move rfl) rfl ?_
    refine WL.call0 (by kernel_rfl) rfl rfl (fun w' hw => key_calls l a m c hi hm w' (hr.satA hne hw)) ?_
    refine WL.val (OV.assign rfl) rfl ?_
    refine WL.nil ?_
    refine WX.next ?_
    refine WC.seq ?_
    refine WC.seq ?_
    refine WC.region ?_
    refine WL.val (OV.move rfl) rfl ?_
    refine WL.val (OV.nilCheck rfl) rfl ?_
    first
    | (refine WL.val (OV.fieldAddr0 (off := 1) rfl T.u66 rfl) rfl ?_)
    | (refine WL.val (OV.fieldAddr (off := 1) rfl T.u66 rfl) rfl ?_)
    first
    | (refine WL.val (OV.load1 rfl T.u54 rfl (fun _ hw => cell_own hw (.head _) rfl)) rfl ?_)
    | (refine WL.val (OV.load1 rfl T.u54 rfl (fun _ hw => cell_own hw (.tail _ (.head _)) rfl)) rfl ?_)
    | (refine WL.val (OV.load1 rfl T.u54 rfl (fun _ hw => cell_own hw (.tail _ (.tail _ (.head _))) rfl)) rfl ?_)
    | (refine WL.val (OV.load1 rfl T.u54 rfl (fun _ hw => cell_own hw (.tail _ (.tail _ (.tail _ (.head _)))) rfl)) rfl ?_)
    | (refine WL.val (OV.load1 rfl T.u54 rfl (fun _ hw => cell_own hw (.tail _ (.tail _ (.tail _ (.tail _ (.head _))))) rfl)) rfl ?_)
    refine WL.val (OV.move rfl) rfl ?_
    refine WL.val ((OV.lookup (KeyLaw.str T.u9) T.u54 (by kernel_rfl) rfl rfl (fun _ hw => own_map (.tail _ (.head _)) _ hw)).cast (rowsM_got g.es l)) rfl ?_
    refine WL.val (OV.neqPN T.u78 rfl rfl) rfl ?_
    refine WL.nil ?_
    refine WX.next ?_
    refine WC.cond rfl (fun c25 => ?_) (fun c25 => ?_)
    · try simp only [decide_eq_true_eq, decide_eq_false_iff_not, Bool.not_eq_true', Bool.not_eq_false'] at c25
      refine WC.seq ?_
      refine WC.region ?_
      refine WL.val (OV.assign rfl) rfl ?_
      refine WL.val (OV.assign rfl) rfl ?_
      refine WL.nil ?_
      refine WX.next ?_
      refine WC.ret ?_
      refine WX.then_ret ?_
      have hwd : l.length = g.width := by have := hr.1; omega
      have hin : l ∈ (rp g).map (·.1) := by
        rw [mem_rp]
        cases hf : g.es.find? fun e => e.row = l with
        | none => rw [hf] at c25; simp at c25
        | some e => exact ⟨e, List.mem_of_find?_eq_some hf, by simpa using List.find?_some hf⟩
      exact WX.ret2 rfl rfl rfl rfl (fun w' hw => ⟨by rw [addV, addE, if_pos hwd, decide_eq_false (fun h => h.2 hin)], g, by rw [addRP, if_neg (fun h => h.2 hin)], ok, RelLe.refl g, hw.turned⟩)
    · try simp only [decide_eq_true_eq, decide_eq_false_iff_not, Bool.not_eq_true', Bool.not_eq_false'] at c25
      refine WC.skip ?_
      refine WX.next ?_
      refine WC.seq ?_
      refine WC.region ?_
      refine WL.val (OV.move rfl) rfl ?_
      refine WL.callF (ι := Option Addr × Nat) (vv := fun q => .slice q.1 l.length q.2) (pp := fun _ => True) (it := fun q => row 3 1 q.1 l.length q.2 (ints l)) (by kernel_rfl) rfl rfl (fun w' hw => (clone_calls l a m c hm w' (hr.satA hne hw)).mono (fun en w'' ⟨a', c', q1, q2, q3⟩ => ⟨(a', c'), q1, trivial, q2, q3⟩)) ?_
      rintro ⟨a27, c27⟩ _
      refine WL.val (OV.buildStruct (xs := [(0, .tmp 27), (1, .const (.int .i64 4))]) (pl := [(0, 1), (1, 1)]) (cs := [.slice a27 l.length c27, .int .i64 4]) T.u80 T.zr80 (by kernel_rfl) rfl (fill_cons (us := [_]) rfl rfl (by first | decide | simp) (fill_cons (us := [_]) rfl rfl (by first | decide | simp) rfl))) rfl ?_
      refine WL.box rfl rfl rfl ?_
      intro b29
      refine WL.val (OV.assign rfl) rfl ?_
      refine WL.nil ?_
      refine WX.next ?_
      refine WC.seq ?_
      refine WC.region ?_
      refine WL.val (OV.move rfl) rfl ?_
      refine WL.val (OV.nilCheck rfl) rfl ?_
      first
      | (refine WL.val (OV.fieldAddr0 (off := 1) rfl T.u66 rfl) rfl ?_)
      | (refine WL.val (OV.fieldAddr (off := 1) rfl T.u66 rfl) rfl ?_)
      first
      | (refine WL.val (OV.load1 rfl T.u54 rfl (fun _ hw => cell_own hw (.head _) rfl)) rfl ?_)
      | (refine WL.val (OV.load1 rfl T.u54 rfl (fun _ hw => cell_own hw (.tail _ (.head _)) rfl)) rfl ?_)
      | (refine WL.val (OV.load1 rfl T.u54 rfl (fun _ hw => cell_own hw (.tail _ (.tail _ (.head _))) rfl)) rfl ?_)
      | (refine WL.val (OV.load1 rfl T.u54 rfl (fun _ hw => cell_own hw (.tail _ (.tail _ (.tail _ (.head _)))) rfl)) rfl ?_)
      | (refine WL.val (OV.load1 rfl T.u54 rfl (fun _ hw => cell_own hw (.tail _ (.tail _ (.tail _ (.tail _ (.head _))))) rfl)) rfl ?_)
      refine WL.val (OV.move rfl) rfl ?_
      refine WL.val (OV.move rfl) rfl ?_
      first
      | (refine WL.mapUpdate (KeyLaw.str T.u9) T.u54 rfl rfl rfl ?_)
      | (refine WL.focus perm1 (WL.mapUpdate (KeyLaw.str T.u9) T.u54 rfl rfl rfl ?_))
      | (refine WL.focus perm2 (WL.mapUpdate (KeyLaw.str T.u9) T.u54 rfl rfl rfl ?_))
      | (refine WL.focus perm3 (WL.mapUpdate (KeyLaw.str T.u9) T.u54 rfl rfl rfl ?_))
      | (refine WL.focus perm4 (WL.mapUpdate (KeyLaw.str T.u9) T.u54 rfl rfl rfl ?_))
      refine WL.nil ?_
      refine WX.next ?_
      refine WC.seq ?_
      refine WC.region ?_
      refine WL.val (OV.move rfl) rfl ?_
      refine WL.val (OV.move rfl) rfl ?_
      refine WL.val (OV.nilCheck rfl) rfl ?_
      first
      | (refine WL.val (OV.fieldAddr0 (off := 3) rfl T.u66 rfl) rfl ?_)
      | (refine WL.val (OV.fieldAddr (off := 3) rfl T.u66 rfl) rfl ?_)
      first
      | (refine WL.val (OV.load1 rfl T.u56 rfl (fun _ hw => cell_own hw (.head _) rfl)) rfl ?_)
      | (refine WL.val (OV.load1 rfl T.u56 rfl (fun _ hw => cell_own hw (.tail _ (.head _)) rfl)) rfl ?_)
      | (refine WL.val (OV.load1 rfl T.u56 rfl (fun _ hw => cell_own hw (.tail _ (.tail _ (.head _))) rfl)) rfl ?_)
      | (refine WL.val (OV.load1 rfl T.u56 rfl (fun _ hw => cell_own hw (.tail _ (.tail _ (.tail _ (.head _)))) rfl)) rfl ?_)
      | (refine WL.val (OV.load1 rfl T.u56 rfl (fun _ hw => cell_own hw (.tail _ (.tail _ (.tail _ (.tail _ (.head _))))) rfl)) rfl ?_)
      refine WL.val (OV.move rfl) rfl ?_
      refine WL.buildSlice1 T.u56 T.z78 T.zr78 rfl rfl rfl ?_
      intro b42
      refine WL.focus perm7 (WL.append (news := [ptr b29]) rfl rfl T.apP (fun _ _ => own_src (.tail _ (.head _)) rfl) (by simp [Value.oneCell', ptr]) ⟨by have := ns_len ok; omega, by unfold maxLen; have := ns_len ok; omega⟩ rfl ?_)
      intro a43 c43
      refine WL.val (OV.nilCheck rfl) rfl ?_
      first
      | (refine WL.val (OV.fieldAddr0 (off := 3) rfl T.u66 rfl) rfl ?_)
      | (refine WL.val (OV.fieldAddr (off := 3) rfl T.u66 rfl) rfl ?_)
      refine WL.focus perm5 (WL.store1 (o := 3) rfl rfl rfl T.z56 (by rw [hdC_length (counts_length _)]; omega) ?_)
      rw [hdC_set3]
      refine WL.nil ?_
      refine WX.next ?_
      refine WC.seq ?_
      refine WC.selfB [9] (by kernel_rfl) (by kernel_rfl) (m := 10) rfl ?_
      refine WH.free 0 rfl (by kernel_rfl) (by kernel_rfl) (by kernel_rfl) rfl (fun _ => (fun _ h => h)) (OV.move rfl) rfl (listed' := [true, false, false, false, false, false, false, false, false, false]) rfl ?_
      refine WH.free 1 rfl (by kernel_rfl) (by kernel_rfl) (by kernel_rfl) rfl (fun _ => (fun _ h => h)) (OV.nilCheck rfl) rfl (listed' := [true, true, false, false, false, false, false, false, false, false]) rfl ?_
      first
      | (refine WH.free 2 rfl (by kernel_rfl) (by kernel_rfl) (by kernel_rfl) rfl (fun _ => (fun _ h => h)) (OV.fieldAddr0 (off := 4) rfl T.u66 rfl) rfl (listed' := [true, true, true, false, false, false, false, false, false, false]) rfl ?_)
      | (refine WH.free 2 rfl (by kernel_rfl) (by kernel_rfl) (by kernel_rfl) rfl (fun _ => (fun _ h => h)) (OV.fieldAddr (off := 4) rfl T.u66 rfl) rfl (listed' := [true, true, true, false, false, false, false, false, false, false]) rfl ?_)
      first
      | (refine WH.free 3 rfl (by kernel_rfl) (by kernel_rfl) (by kernel_rfl) rfl (fun _ => (fun _ h => h)) (OV.indexArrN (i := 4) rfl rfl T.u57 T.z3 (by omega)) rfl (listed' := [true, true, true, true, false, false, false, false, false, false]) rfl ?_)
      | (refine WH.free 3 rfl (by kernel_rfl) (by kernel_rfl) (by kernel_rfl) rfl (fun _ => (fun _ h => h)) (OV.indexArrON (i := 4) rfl rfl T.u57 T.z3 (by omega)) rfl (listed' := [true, true, true, true, false, false, false, false, false, false]) rfl ?_)
      | (refine WH.free 3 rfl (by kernel_rfl) (by kernel_rfl) (by kernel_rfl) rfl (fun _ => (fun _ h => h)) (OV.indexArr1 rfl rfl T.u57 T.z3 (by omega)) rfl (listed' := [true, true, true, true, false, false, false, false, false, false]) rfl ?_)
      refine WH.take 4 rfl (by kernel_rfl) (by kernel_rfl) (by kernel_rfl) (by kernel_rfl) (fun _ h => h) (OV.load1 (v := .int .i64 (cnt g.es 4 : Int)) rfl T.u3 rfl (fun _ hw => cell_own hw (.head _) (by rw [List.getElem?_toArray]; exact hdC_cnt (q := 4) (counts_get (by decide))))) rfl (listed' := [true, true, true, true, true, false, false, false, false, false]) rfl ?_
      have hc4 := cnt_le g.es 4
      first
      | (refine WH.free 5 rfl (by kernel_rfl) (by kernel_rfl) (by kernel_rfl) rfl (fun _ => (fun _ h => h)) (OV.addI rfl rfl (by omega)) rfl (listed' := [true, true, true, true, true, true, false, false, false, false]) rfl ?_)
      | (refine WH.free 5 rfl (by kernel_rfl) (by kernel_rfl) (by kernel_rfl) rfl (fun _ => (fun _ h => h)) (OV.add rfl rfl) rfl (listed' := [true, true, true, true, true, true, false, false, false, false]) rfl ?_)
      refine WH.free 6 rfl (by kernel_rfl) (by kernel_rfl) (by kernel_rfl) rfl (fun _ => (fun _ h => h)) (OV.nilCheck rfl) rfl (listed' := [true, true, true, true, true, true, true, false, false, false]) rfl ?_
      first
      | (refine WH.free 7 rfl (by kernel_rfl) (by kernel_rfl) (by kernel_rfl) rfl (fun _ => (fun _ h => h)) (OV.fieldAddr0 (off := 4) rfl T.u66 rfl) rfl (listed' := [true, true, true, true, true, true, true, true, false, false]) rfl ?_)
      | (refine WH.free 7 rfl (by kernel_rfl) (by kernel_rfl) (by kernel_rfl) rfl (fun _ => (fun _ h => h)) (OV.fieldAddr (off := 4) rfl T.u66 rfl) rfl (listed' := [true, true, true, true, true, true, true, true, false, false]) rfl ?_)
      first
      | (refine WH.free 8 rfl (by kernel_rfl) (by kernel_rfl) (by kernel_rfl) rfl (fun _ => (fun _ h => h)) (OV.indexArrN (i := 4) rfl rfl T.u57 T.z3 (by omega)) rfl (listed' := [true, true, true, true, true, true, true, true, true, false]) rfl ?_)
      | (refine WH.free 8 rfl (by kernel_rfl) (by kernel_rfl) (by kernel_rfl) rfl (fun _ => (fun _ h => h)) (OV.indexArrON (i := 4) rfl rfl T.u57 T.z3 (by omega)) rfl (listed' := [true, true, true, true, true, true, true, true, true, false]) rfl ?_)
      | (refine WH.free 8 rfl (by kernel_rfl) (by kernel_rfl) (by kernel_rfl) rfl (fun _ => (fun _ h => h)) (OV.indexArr1 rfl rfl T.u57 T.z3 (by omega)) rfl (listed' := [true, true, true, true, true, true, true, true, true, false]) rfl ?_)
      refine WH.only 9 rfl (by kernel_rfl) (listed' := [true, true, true, true, true, true, true, true, true, true]) rfl (fl' := true) rfl ?_
      refine WL.store1 (o := 4 + 4) rfl rfl rfl T.z3 (by rw [hdC_length (counts_length _)]; omega) ?_
      rw [hdC_set (by rw [counts_length]; decide), counts_snoc g.es (Ent.mk b29 a27 c27 l 4) rfl]
      refine WL.nil ?_
      refine WX.contD (by kernel_rfl) (fun h => by cases h) ?_
      refine WH.done (by kernel_rfl) ?_
      refine WX.next ?_
      refine WC.seq ?_
      refine WC.seq ?_
      refine WC.region ?_
      refine WL.val (OV.move rfl) rfl ?_
      refine WL.val (OV.nilCheck rfl) rfl ?_
      first
      | (refine WL.val (OV.fieldAddr0 (off := 12) rfl T.u66 rfl) rfl ?_)
      | (refine WL.val (OV.fieldAddr (off := 12) rfl T.u66 rfl) rfl ?_)
      refine WL.val (OV.load1 rfl T.u55 rfl (fun _ hw => cell_own hw (.head _) (by rw [List.getElem?_toArray]; exact hdC_ix (counts_length _)))) rfl ?_
      refine WL.range T.u55 rfl (fun _ hw => own_map (kv := ixM g.ix) (.tail _ (.tail _ (.tail _ (.tail _ (.tail _ (.tail _ (.head _))))))) _ hw) rfl ?_
      intro it59
      refine WL.nil ?_
      refine WX.next ?_
      refine WC.block ?_
      have hfresh : ∀ x ∈ g.es, x.row ≠ l := by
        intro x hx hh
        have : (g.es.find? fun e => e.row = l) = none := by simpa using c25
        rw [List.find?_eq_none] at this
        exact this x hx (by simpa using hh)
      refine WC.loop2 (fun (ix' : List Idx) (vis : List Nat) => [(7, ptr b29), (59, .pointer (some ⟨it59, 0, none⟩))])
          (fun ix' vis w' => Ixs (Ent.mk b29 a27 c27 l 4) g.ix vis ix' ∧ Sat w (DD (relA g)) (fun b => b < w.heap.size ∧ ¬ DD (relA g) b) w (own it59 (iterK g.ib (ixM g.ix).length vis) :: hdA g.r (hdC g.width g.mb (fslice g) (.slice a43 (g.ns.length + 1) c43) (counts (g.es ++ [(Ent.mk b29 a27 c27 l 4)])) g.ib) :: own g.mb (mapK Value.string (rowsM (g.es ++ [(Ent.mk b29 a27 c27 l 4)]))) :: own g.ib (mapK Value.string (ixM g.ix)) :: psA g.fa g.fc g.fs :: row 78 1 a43 (g.ns.length + 1) c43 (ptrs (g.ns ++ [b29])) :: tailA (g.es ++ [(Ent.mk b29 a27 c27 l 4)]) g.cols ix') w')
          (fun _ vis => unseen (ixM g.ix).length vis) g.ix [] ⟨rfl, rfl, trivial⟩ (fun w' hw => ⟨Ixs.start _ _, ?_⟩) ?_
      · have h1 := (hw.perm perm3).drop
        have h2 := rowsM_snoc (es := g.es) (e := (Ent.mk b29 a27 c27 l 4)) hfresh
        rw [← h2]
        have h3 : ptrs g.ns ++ [ptr b29] = ptrs (g.ns ++ [b29]) := by simp [ptrs]
        rw [h3] at h1
        refine h1.perm (List.Perm.cons _ (List.Perm.cons _ ?_))
        have ht := tail_ent g.es [] (Ent.mk b29 a27 c27 l 4) g.cols g.ix
        rw [List.append_nil] at ht
        exact (List.Perm.append_left [_, _, _, _] ht.symm).trans perm_add5
      intro ix' vis
      refine WC.pure (fun hix => ?_)
      refine WC.seq ?_
      refine WC.region ?_
      refine WL.next (enc := Value.string) (kv := ixM g.ix) rfl rfl (fun _ hw => own_map (.tail _ (.tail _ (.tail _ (.head _)))) _ hw) ?_ ?_
      · intro hall
        refine WL.val (OV.extract rfl rfl) rfl ?_
        refine WL.nil ?_
        refine WX.next ?_
        refine WC.seq ?_
        refine WC.condF rfl ?_
        refine WC.exit ?_
        refine WX.then_exit ?_
        refine WX.then_exit ?_
        refine WX.block_hit ?_
        refine WX.next ?_
        refine WC.seq ?_
        refine WC.region ?_
        refine WL.val (OV.assign rfl) rfl ?_
        refine WL.val (OV.assign rfl) rfl ?_
        refine WL.nil ?_
        refine WX.next ?_
        refine WC.ret ?_
        have hwd : l.length = g.width := by have := hr.1; omega
        have hnin : l ∉ (rp g).map (·.1) := by
          rw [mem_rp]
          rintro ⟨e, he, hh⟩
          exact hfresh e he hh
        refine WX.ret2 rfl rfl rfl rfl (fun w' hw => ⟨by rw [addV, addE, if_pos hwd, decide_eq_true ⟨hwd, hnin⟩], addG g (Ent.mk b29 a27 c27 l 4) a43 c43 ix', ?_, ?_, ?_, ?_⟩)
        · rw [addRP, if_pos ⟨hwd, hnin⟩]; simp [rp, addG]
        · have hnd := tail_nodup (X := [own it59 (iterK g.ib (ixM g.ix).length vis), hdA g.r (hdC g.width g.mb (fslice g) (.slice a43 (g.ns.length + 1) c43) (counts (g.es ++ [(Ent.mk b29 a27 c27 l 4)])) g.ib), own g.mb (mapK Value.string (rowsM (g.es ++ [(Ent.mk b29 a27 c27 l 4)]))), own g.ib (mapK Value.string (ixM g.ix)), psA g.fa g.fc g.fs, row 78 1 a43 (g.ns.length + 1) c43 (ptrs (g.ns ++ [b29]))]) hw
          refine addG_ok ok hwd hi rfl hfresh ?_ hlen (show l.length ≤ 1099511627776 by have := hr.1; omega) hix (by rw [ixM_length] at hall; exact hall)
          intro x hx hh
          rw [List.map_append] at hnd
          exact (List.nodup_append.1 hnd).2.2 _ (List.mem_map.2 ⟨x, hx, rfl⟩) _ (.head _) hh
        · exact ⟨rfl, rfl, fun e he => ⟨e, List.mem_append_left _ he, rfl, rfl, rfl, rfl⟩, fun _ h => h⟩
        · have h1 := hw.drop
          have h2 := hix.ixM
          have h3 : relA (addG g (Ent.mk b29 a27 c27 l 4) a43 c43 ix') = hdA g.r (hdC g.width g.mb (fslice g) (.slice a43 (g.ns.length + 1) c43) (counts (g.es ++ [(Ent.mk b29 a27 c27 l 4)])) g.ib) :: own g.mb (mapK Value.string (rowsM (g.es ++ [(Ent.mk b29 a27 c27 l 4)]))) :: own g.ib (mapK Value.string (ixM ix')) :: psA g.fa g.fc g.fs :: psA a43 c43 (g.ns ++ [b29]) :: tailA (g.es ++ [(Ent.mk b29 a27 c27 l 4)]) g.cols ix' := by
            unfold relA addG fslice nslice
            simp
          rw [h3, h2]
          have h4 : psA a43 c43 (g.ns ++ [b29]) = row 78 1 a43 (g.ns.length + 1) c43 (ptrs (g.ns ++ [b29])) := by
            show row 78 1 a43 (g.ns ++ [b29]).length c43 _ = _
            rw [List.length_append, List.length_singleton]
          rw [h4]
          exact h1.turned
      · intro i q hi2 hv
        obtain ⟨x0, hx0, rfl⟩ := ixM_get hi2
        obtain ⟨x', hx1, hxp, hxm, hxc, _, hxg⟩ := hix.at_ i x0 hx0
        obtain ⟨m1, m2, rfl, hm1⟩ := split_get hx1
        have hx0m := List.mem_of_getElem? hx0
        have hcm := ok.ixc x0 hx0m
        rw [← hxc] at hcm
        obtain ⟨k1, k2, hk⟩ := split_mem hcm
        have hcl := ok.coll _ hcm
        have hml := hr.1
        have hcw : ∀ k ∈ x'.col.l, 0 ≤ k ∧ k < (l.length : Int) := fun k hkk => by have := ok.cols _ hcm k hkk; omega
        have hps : (psOf x'.gs (ixKey x'.col (Ent.mk b29 a27 c27 l 4))).length ≤ 1099511627776 := by
          rw [hxg hv]
          have h1 := ((ok.ix x0 hx0m).ps (ixKey x'.col (Ent.mk b29 a27 c27 l 4))).length_eq
          rw [List.length_map] at h1
          have h2 := List.length_filter_le (fun e => decide (ixKey x0.col e = ixKey x'.col (Ent.mk b29 a27 c27 l 4))) g.es
          omega
        refine WL.val (OV.extract rfl rfl) rfl ?_
        refine WL.nil ?_
        refine WX.next ?_
        refine WC.seq ?_
        refine WC.condT rfl ?_
        refine WC.skip ?_
        refine WX.next ?_
        refine WC.block ?_
        refine WC.seq ?_
        refine WC.region ?_
        refine WL.val (OV.entry (enc := Value.string) (kv := ixM g.ix) (i := i) rfl (fun _ hw => hw.it _ (.head _)) (fun _ hw => own_map (.tail _ (.tail _ (.tail _ (.head _)))) _ hw) hi2) rfl ?_
        refine WL.val (OV.extract rfl rfl) rfl ?_
        refine WL.val (OV.assign rfl) rfl ?_
        refine WL.nil ?_
        refine WX.next ?_
        refine WC.region ?_
        refine WL.val (OV.move rfl) rfl ?_
        refine WL.val (OV.move rfl) rfl ?_
        refine WL.focus (ow' := (idxA x' ++ (entA (Ent.mk b29 a27 c27 l 4) ++ colA x'.col)) ++ ([own it59 (iterK g.ib (ixM g.ix).length (vis ++ [i])), hdA g.r (hdC g.width g.mb (fslice g) (.slice a43 (g.ns.length + 1) c43) (counts (g.es ++ [(Ent.mk b29 a27 c27 l 4)])) g.ib), own g.mb (mapK Value.string (rowsM (g.es ++ [(Ent.mk b29 a27 c27 l 4)]))), own g.ib (mapK Value.string (ixM g.ix)), psA g.fa g.fc g.fs, row 78 1 a43 (g.ns.length + 1) c43 (ptrs (g.ns ++ [b29]))] ++ tailA g.es (k1 ++ k2) (m1 ++ m2))) (by rw [hk]; exact perm_deep (X := [own it59 (iterK g.ib (ixM g.ix).length (vis ++ [i])), hdA g.r (hdC g.width g.mb (fslice g) (.slice a43 (g.ns.length + 1) c43) (counts (g.es ++ [(Ent.mk b29 a27 c27 l 4)])) g.ib), own g.mb (mapK Value.string (rowsM (g.es ++ [(Ent.mk b29 a27 c27 l 4)]))), own g.ib (mapK Value.string (ixM g.ix)), psA g.fa g.fc g.fs, row 78 1 a43 (g.ns.length + 1) c43 (ptrs (g.ns ++ [b29]))]) (es := g.es) (e := (Ent.mk b29 a27 c27 l 4))) (WL.callTA (ι := Option Addr × Nat) (vv := fun _ => .tuple #[]) (pp := fun _ => True) (idxA x' ++ (entA (Ent.mk b29 a27 c27 l 4) ++ colA x'.col)) (AA := fun q => idxA { x' with gs := gadd x'.gs (ixKey x'.col (Ent.mk b29 a27 c27 l 4)) b29 q.1 q.2 } ++ (entA (Ent.mk b29 a27 c27 l 4) ++ colA x'.col)) rfl (by kernel_rfl) (show _ = some [ptr x'.p, ptr b29] by rw [hxp]; rfl) rfl (fun w'' hw'' hH => (idxAdd_calls x' (Ent.mk b29 a27 c27 l 4) hcw hi (show l.length ≤ 1099511627776 by omega) hcl hps w'' hH).mono (fun en w3 ⟨q1, a', c', q2⟩ => ⟨(a', c'), q1, trivial, q2⟩)) ?_)
        rintro ⟨a66, c66⟩ _
        refine WL.nil ?_
        refine WX.block_normal ?_
        exact WX.round2 (m1 ++ { x' with gs := gadd x'.gs (ixKey x'.col (Ent.mk b29 a27 c27 l 4)) b29 a66 c66 } :: m2) (vis ++ [i]) ⟨rfl, rfl, trivial⟩ (fun w' hw => ⟨by rw [← hm1] at hv ⊢; exact hix.step hv, by
          refine hw.perm ?_
          rw [hk]
          exact (perm_deep (X := [own it59 (iterK g.ib (ixM g.ix).length (vis ++ [i])), hdA g.r (hdC g.width g.mb (fslice g) (.slice a43 (g.ns.length + 1) c43) (counts (g.es ++ [(Ent.mk b29 a27 c27 l 4)])) g.ib), own g.mb (mapK Value.string (rowsM (g.es ++ [(Ent.mk b29 a27 c27 l 4)]))), own g.ib (mapK Value.string (ixM g.ix)), psA g.fa g.fc g.fs, row 78 1 a43 (g.ns.length + 1) c43 (ptrs (g.ns ++ [b29]))]) (es := g.es) (e := (Ent.mk b29 a27 c27 l 4)) (x := { x' with gs := gadd x'.gs (ixKey x'.col (Ent.mk b29 a27 c27 l 4)) b29 a66 c66 })).symm⟩) (unseen_lt (List.getElem?_eq_some_iff.1 hi2).1 hv)

end Go.Proofs.YtijplknkpkmblaaGreatDoor
