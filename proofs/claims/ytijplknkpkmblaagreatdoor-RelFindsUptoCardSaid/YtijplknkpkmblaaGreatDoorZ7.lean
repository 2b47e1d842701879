/- Contracts of functions of the program: what each returns and leaves in memory. Printed by gen.py and walk.py. -/
import Derived.Test.YtijplknkpkmblaaGreatDoorZ6
namespace Go.Proofs.YtijplknkpkmblaaGreatDoor
open Go Go.Hw
set_option linter.unusedSimpArgs false
set_option linter.unusedVariables false
theorem RI.lt {w : World} {a : Option Addr} {m : Nat} {l : List Int} (h : RI w a m l) {b : Addr} (hb : a = Option.some b) (hm : 0 < m) : b.block < w.heap.size := by
  have hl : 0 < l.length := by rw [h.1]; exact hm
  have h1 := h.2.2 b hb 0 _ (List.getElem?_eq_getElem hl)
  have h2 := World.block_lt_of_cell? _ _ h1
  rwa [add_block] at h2
/-- Find's rows are those of Rows that fit. -/
theorem sel_filter (L : List (List Int × Nat)) (parts : Int) (cols key : List Int) : selR L parts cols key = (selR L parts [] []).filter fun r => decide (fitsL r cols key) := by
  symm
  refine sortR_eq ?_ ((sortR_sorted _).filter _)
  refine ((sortR_perm _).filter _).trans (List.Perm.of_eq ?_)
  rw [List.filter_map, List.filter_filter]
  refine congrArg (List.map _) (List.filter_congr ?_)
  intro p _
  have h0 : fitsL p.1 [] [] := ⟨rfl, by simp⟩
  simp only [Function.comp_apply, h0, decide_true, Bool.and_true]
  rw [Bool.and_comm]
theorem sel_all_len {g : RelG} {parts : Int} {ys : List Col} (h : ys.map Col.l = selR (rp g) parts [] []) : ys.length ≤ g.es.length := by
  have h1 := congrArg List.length h
  rw [List.length_map] at h1
  have h2 := selR_len (rp g) parts [] []
  rw [rp_len] at h2
  omega

theorem RI.pre {w : World} {a : Option Addr} {n m : Nat} {l r : List Int} (h : RI w a n (l ++ r)) (hm : l.length = m) : RI w a m l := by
  refine ⟨hm, fun ha => ?_, fun q hq j k hj => h.2.2 q hq j k ?_⟩
  · have h1 := h.2.1 ha
    have h2 := h.1
    rw [List.length_append] at h2
    omega
  · rw [List.getElem?_append_left (List.getElem?_eq_some_iff.1 hj).1]
    exact hj
abbrev opC (kind parts stop : Int) (two : Bool) (ra : Option Addr) (rm rc : Nat) (a1 : Option Addr) (m1 c1 : Nat) (a2 : Option Addr) (m2 c2 : Nat) : List Value := [.int .i64 kind, .int .i64 parts, .int .i64 stop, .bool two, .slice ra rm rc, .slice a1 m1 c1, .slice a2 m2 c2]

set_option maxRecDepth 10000 in
set_option maxHeartbeats 1000000 in
theorem finds_calls (g : RelG) (q : RefG) (t : Tie g q) (kind parts stop : Int) (two : Bool) (ra : Option Addr) (rm rc : Nat) (cols key : List Int) (a1 : Option Addr) (m1 c1 : Nat) (a2 : Option Addr) (m2 c2 : Nat) (hc : i64s cols) (hk : i64s key) (hm1 : m1 ≤ 1048576) (hm2 : m2 ≤ 1048576) (w : World) (hr1 : RI w a1 m1 cols) (hr2 : RI w a2 m2 key) (hne1 : ∀ b, a1 = some b → 0 < m1 → ¬ DD (relA g ++ refA q) b.block) (hne2 : ∀ b, a2 = some b → 0 < m2 → ¬ DD (relA g ++ refA q) b.block) (hA : Holds (relA g ++ refA q) w) :
  Calls Tryz.prog 26 #[.agg #[ptr g.r, ptr q.p], .agg (opC kind parts stop two ra rm rc a1 m1 c1 a2 m2 c2).toArray] w fun e w' => e = .returned (.bool true) ∧ ∃ g', Tie g' q ∧ RelLe g g' ∧ g'.es = g.es ∧ Turns (relA g ++ refA q) (relA g' ++ refA q) w w' := by
  refine enterA hA (args := [.agg #[ptr g.r, ptr q.p], .agg (opC kind parts stop two ra rm rc a1 m1 c1 a2 m2 c2).toArray]) Tryz.func26 rfl Tryz.ntmps26 rfl rfl ?_
  refine WC.seq ?_
  refine WC.region ?_
  refine WL.box rfl rfl rfl ?_
  intro b2
  refine WL.box rfl rfl rfl ?_
  intro b3
  refine WL.alloc T.zr4 rfl ?_
  intro b4
  refine WL.nil ?_
  refine WX.next ?_
  refine WC.seq ?_
  refine WC.region ?_
  first
  | (refine WL.val (OV.fieldAddr0 (off := 1) rfl T.u28 rfl) rfl ?_)
  | (refine WL.val (OV.fieldAddr (off := 1) rfl T.u28 rfl) rfl ?_)
  first
  | (refine WL.val (OV.load1 rfl T.u26 rfl (fun _ hw => cell_own hw (.head _) rfl)) rfl ?_)
  | (refine WL.val (OV.load1 rfl T.u26 rfl (fun _ hw => cell_own hw (.tail _ (.head _)) rfl)) rfl ?_)
  | (refine WL.val (OV.load1 rfl T.u26 rfl (fun _ hw => cell_own hw (.tail _ (.tail _ (.head _))) rfl)) rfl ?_)
  | (refine WL.val (OV.load1 rfl T.u26 rfl (fun _ hw => cell_own hw (.tail _ (.tail _ (.tail _ (.head _)))) rfl)) rfl ?_)
  | (refine WL.val (OV.load1 rfl T.u26 rfl (fun _ hw => cell_own hw (.tail _ (.tail _ (.tail _ (.tail _ (.head _))))) rfl)) rfl ?_)
  first
  | (refine WL.val (OV.fieldAddr0 (off := 1) rfl T.u34 rfl) rfl ?_)
  | (refine WL.val (OV.fieldAddr (off := 1) rfl T.u34 rfl) rfl ?_)
  first
  | (refine WL.val (OV.load1 rfl T.u3 rfl (fun _ hw => cell_own hw (.head _) rfl)) rfl ?_)
  | (refine WL.val (OV.load1 rfl T.u3 rfl (fun _ hw => cell_own hw (.tail _ (.head _)) rfl)) rfl ?_)
  | (refine WL.val (OV.load1 rfl T.u3 rfl (fun _ hw => cell_own hw (.tail _ (.tail _ (.head _))) rfl)) rfl ?_)
  | (refine WL.val (OV.load1 rfl T.u3 rfl (fun _ hw => cell_own hw (.tail _ (.tail _ (.tail _ (.head _)))) rfl)) rfl ?_)
  | (refine WL.val (OV.load1 rfl T.u3 rfl (fun _ hw => cell_own hw (.tail _ (.tail _ (.tail _ (.tail _ (.head _))))) rfl)) rfl ?_)
  first
  | (refine WL.val (OV.fieldAddr0 (off := 5) rfl T.u34 rfl) rfl ?_)
  | (refine WL.val (OV.fieldAddr (off := 5) rfl T.u34 rfl) rfl ?_)
  first
  | (refine WL.val (OV.load1 rfl T.u32 rfl (fun _ hw => cell_own hw (.head _) rfl)) rfl ?_)
  | (refine WL.val (OV.load1 rfl T.u32 rfl (fun _ hw => cell_own hw (.tail _ (.head _)) rfl)) rfl ?_)
  | (refine WL.val (OV.load1 rfl T.u32 rfl (fun _ hw => cell_own hw (.tail _ (.tail _ (.head _))) rfl)) rfl ?_)
  | (refine WL.val (OV.load1 rfl T.u32 rfl (fun _ hw => cell_own hw (.tail _ (.tail _ (.tail _ (.head _)))) rfl)) rfl ?_)
  | (refine WL.val (OV.load1 rfl T.u32 rfl (fun _ hw => cell_own hw (.tail _ (.tail _ (.tail _ (.tail _ (.head _))))) rfl)) rfl ?_)
  first
  | (refine WL.val (OV.fieldAddr0 (off := 6) rfl T.u34 rfl) rfl ?_)
  | (refine WL.val (OV.fieldAddr (off := 6) rfl T.u34 rfl) rfl ?_)
  first
  | (refine WL.val (OV.load1 rfl T.u32 rfl (fun _ hw => cell_own hw (.head _) rfl)) rfl ?_)
  | (refine WL.val (OV.load1 rfl T.u32 rfl (fun _ hw => cell_own hw (.tail _ (.head _)) rfl)) rfl ?_)
  | (refine WL.val (OV.load1 rfl T.u32 rfl (fun _ hw => cell_own hw (.tail _ (.tail _ (.head _))) rfl)) rfl ?_)
  | (refine WL.val (OV.load1 rfl T.u32 rfl (fun _ hw => cell_own hw (.tail _ (.tail _ (.tail _ (.head _)))) rfl)) rfl ?_)
  | (refine WL.val (OV.load1 rfl T.u32 rfl (fun _ hw => cell_own hw (.tail _ (.tail _ (.tail _ (.tail _ (.head _))))) rfl)) rfl ?_)
  refine WL.callTA (ι := Option Addr × Nat × List Col) (vv := fun z => .slice z.1 z.2.2.length z.2.1) (pp := fun z => z.2.2.map Col.l = ((rowsQ q parts).filter (fun r => decide (fitsL r cols key)))) [] (AA := fun z => lstA z.1 z.2.1 z.2.2) rfl (by kernel_rfl) rfl rfl (fun w' hw' _ => (refFind_calls q t.qok parts cols key a1 m1 c1 a2 m2 c2 (by omega) (by omega) w' (hr1.satA hne1 hw') (hr2.satA hne2 hw') (Hw.Sat.part (List.sublist_append_right _ _) hw'.drop.drop.drop).holdsAll).mono (fun en w'' ⟨la, lc, ys, h1, h2, h3⟩ => ⟨(la, lc, ys), h1, h2, h3⟩)) ?_
  rintro ⟨la, lc, ys⟩ hys
  have hys : ys.map Col.l = ((rowsQ q parts).filter (fun r => decide (fitsL r cols key))) := hys
  refine WL.focus (ow' := box1 b4 4 (.bool false) :: own b3 (.cells (opC kind parts stop two ra rm rc a1 m1 c1 a2 m2 c2).toArray 34 (0, 0)) :: own b2 (.cells [ptr g.r, ptr q.p].toArray 28 (0, 0)) :: (relA g ++ (refA q ++ lstA la lc ys))) (perm_cat [lstA la lc ys, [box1 b4 4 (.bool false), own b3 (.cells (opC kind parts stop two ra rm rc a1 m1 c1 a2 m2 c2).toArray 34 (0, 0)), own b2 (.cells [ptr g.r, ptr q.p].toArray 28 (0, 0))], relA g, refA q] [1, 2, 3, 0] (by decide) rfl) ?_
  refine WL.alloc T.zr48 rfl ?_
  intro b5
  first
  | (refine WL.store1 rfl rfl rfl T.z48 (by first | decide | (simp; omega)) ?_)
  | (refine WL.focus perm1 (WL.store1 rfl rfl rfl T.z48 (by first | decide | (simp; omega)) ?_))
  | (refine WL.focus perm2 (WL.store1 rfl rfl rfl T.z48 (by first | decide | (simp; omega)) ?_))
  | (refine WL.focus perm3 (WL.store1 rfl rfl rfl T.z48 (by first | decide | (simp; omega)) ?_))
  | (refine WL.focus perm4 (WL.store1 rfl rfl rfl T.z48 (by first | decide | (simp; omega)) ?_))
  | (refine WL.focus perm5 (WL.store1 rfl rfl rfl T.z48 (by first | decide | (simp; omega)) ?_))
  refine WL.nil ?_
  refine WX.next ?_
  refine WC.seq ?_
  refine WC.region ?_
  first
  | (refine WL.val (OV.fieldAddr0 (off := 5) rfl T.u34 rfl) rfl ?_)
  | (refine WL.val (OV.fieldAddr (off := 5) rfl T.u34 rfl) rfl ?_)
  first
  | (refine WL.val (OV.load1 rfl T.u32 rfl (fun _ hw => cell_own hw (.head _) rfl)) rfl ?_)
  | (refine WL.val (OV.load1 rfl T.u32 rfl (fun _ hw => cell_own hw (.tail _ (.head _)) rfl)) rfl ?_)
  | (refine WL.val (OV.load1 rfl T.u32 rfl (fun _ hw => cell_own hw (.tail _ (.tail _ (.head _))) rfl)) rfl ?_)
  | (refine WL.val (OV.load1 rfl T.u32 rfl (fun _ hw => cell_own hw (.tail _ (.tail _ (.tail _ (.head _)))) rfl)) rfl ?_)
  | (refine WL.val (OV.load1 rfl T.u32 rfl (fun _ hw => cell_own hw (.tail _ (.tail _ (.tail _ (.tail _ (.head _))))) rfl)) rfl ?_)
  refine WL.callTA (ι := Col) (vs := [.slice a1 m1 c1]) (vv := encC) (pp := fun y => y.l = cols ++ [71, 72, 73]) [] (AA := fun y => [row 3 1 y.a y.l.length y.c (ints y.l)]) rfl (by kernel_rfl) rfl rfl (fun w' hw' _ => (roomy_calls cols a1 m1 c1 (by omega) w' (hr1.satA hne1 hw')).mono (fun en w'' ⟨y, h1, h2, h3⟩ => ⟨y, h1, h2, h3⟩)) ?_
  intro yc hyc
  have hyc : yc.l = cols ++ [71, 72, 73] := hyc
  refine WL.val (OV.assign rfl) rfl ?_
  refine WL.nil ?_
  refine WX.next ?_
  refine WC.seq ?_
  refine WC.region ?_
  first
  | (refine WL.val (OV.fieldAddr0 (off := 6) rfl T.u34 rfl) rfl ?_)
  | (refine WL.val (OV.fieldAddr (off := 6) rfl T.u34 rfl) rfl ?_)
  first
  | (refine WL.val (OV.load1 rfl T.u32 rfl (fun _ hw => cell_own hw (.head _) rfl)) rfl ?_)
  | (refine WL.val (OV.load1 rfl T.u32 rfl (fun _ hw => cell_own hw (.tail _ (.head _)) rfl)) rfl ?_)
  | (refine WL.val (OV.load1 rfl T.u32 rfl (fun _ hw => cell_own hw (.tail _ (.tail _ (.head _))) rfl)) rfl ?_)
  | (refine WL.val (OV.load1 rfl T.u32 rfl (fun _ hw => cell_own hw (.tail _ (.tail _ (.tail _ (.head _)))) rfl)) rfl ?_)
  | (refine WL.val (OV.load1 rfl T.u32 rfl (fun _ hw => cell_own hw (.tail _ (.tail _ (.tail _ (.tail _ (.head _))))) rfl)) rfl ?_)
  refine WL.callTA (ι := Col) (vs := [.slice a2 m2 c2]) (vv := encC) (pp := fun y => y.l = key ++ [71, 72, 73]) [] (AA := fun y => [row 3 1 y.a y.l.length y.c (ints y.l)]) rfl (by kernel_rfl) rfl rfl (fun w' hw' _ => (roomy_calls key a2 m2 c2 (by omega) w' (hr2.satA hne2 hw')).mono (fun en w'' ⟨y, h1, h2, h3⟩ => ⟨y, h1, h2, h3⟩)) ?_
  intro yk hyk
  have hyk : yk.l = key ++ [71, 72, 73] := hyk
  refine WL.val (OV.assign rfl) rfl ?_
  refine WL.nil ?_
  refine WX.next ?_
  refine WC.seq ?_
  have hcl0 : yc.l.length = cols.length + 3 := by rw [hyc]; simp
  have hkl0 : yk.l.length = key.length + 3 := by rw [hyk]; simp
  have hc00 := hr1.1
  have hk00 := hr2.1
  refine WC.know (fun w' hw => (⟨row_addr (hw.it _ (.tail _ (.head _))) (by omega), row_cap (hw.it _ (.tail _ (.head _))), row_addr (hw.it _ (.head _)) (by omega), row_cap (hw.it _ (.head _))⟩ : (∃ b, yc.a = some ⟨b, 0, none⟩) ∧ yc.l.length ≤ yc.c ∧ (∃ b, yk.a = some ⟨b, 0, none⟩) ∧ yk.l.length ≤ yk.c)) (fun hq => ?_)
  obtain ⟨⟨bc, hbc⟩, hcc, ⟨bk, hbk⟩, hkc⟩ := hq
  refine WC.drawn (fun w' => w'.heap[b2]? = some (.cells [ptr g.r, ptr q.p].toArray 28 (0, 0)) ∧ w'.heap[b3]? = some (.cells (opC kind parts stop two ra rm rc a1 m1 c1 a2 m2 c2).toArray 34 (0, 0))) [] (by kernel_rfl) (by kernel_rfl) (m := 16) rfl ?_
  first
  | (refine WH.free 0 rfl (by kernel_rfl) (by kernel_rfl) (by kernel_rfl) rfl (fun _ => (fun _ hw => ⟨hw.it _ (.tail _ (.tail _ (.tail _ (.tail _ (.tail _ (.head _)))))), hw.it _ (.tail _ (.tail _ (.tail _ (.tail _ (.head _)))))⟩)) (OV.fieldAddr0 (off := 0) rfl T.u28 rfl) rfl (listed' := [true, false, false, false, false, false, false, false, false, false, false, false, false, false, false, false]) rfl ?_)
  | (refine WH.free 0 rfl (by kernel_rfl) (by kernel_rfl) (by kernel_rfl) rfl (fun _ => (fun _ hw => ⟨hw.it _ (.tail _ (.tail _ (.tail _ (.tail _ (.tail _ (.head _)))))), hw.it _ (.tail _ (.tail _ (.tail _ (.tail _ (.head _)))))⟩)) (OV.fieldAddr (off := 0) rfl T.u28 rfl) rfl (listed' := [true, false, false, false, false, false, false, false, false, false, false, false, false, false, false, false]) rfl ?_)
  refine WH.take 1 rfl (by kernel_rfl) (by kernel_rfl) (by kernel_rfl) (by kernel_rfl) (fun _ hw => ⟨hw.it _ (.tail _ (.tail _ (.tail _ (.tail _ (.tail _ (.head _)))))), hw.it _ (.tail _ (.tail _ (.tail _ (.tail _ (.head _)))))⟩) (OV.load1 (v := ptr g.r) rfl T.u25 rfl (fun _ hw => (cell_at hw.1 (o := 0) rfl).1)) rfl (listed' := [true, true, false, false, false, false, false, false, false, false, false, false, false, false, false, false]) rfl ?_
  first
  | (refine WH.free 2 rfl (by kernel_rfl) (by kernel_rfl) (by kernel_rfl) rfl (fun _ => (fun _ hw => ⟨hw.it _ (.tail _ (.tail _ (.tail _ (.tail _ (.tail _ (.head _)))))), hw.it _ (.tail _ (.tail _ (.tail _ (.tail _ (.head _)))))⟩)) (OV.fieldAddr0 (off := 1) rfl T.u34 rfl) rfl (listed' := [true, true, true, false, false, false, false, false, false, false, false, false, false, false, false, false]) rfl ?_)
  | (refine WH.free 2 rfl (by kernel_rfl) (by kernel_rfl) (by kernel_rfl) rfl (fun _ => (fun _ hw => ⟨hw.it _ (.tail _ (.tail _ (.tail _ (.tail _ (.tail _ (.head _)))))), hw.it _ (.tail _ (.tail _ (.tail _ (.tail _ (.head _)))))⟩)) (OV.fieldAddr (off := 1) rfl T.u34 rfl) rfl (listed' := [true, true, true, false, false, false, false, false, false, false, false, false, false, false, false, false]) rfl ?_)
  refine WH.take 3 rfl (by kernel_rfl) (by kernel_rfl) (by kernel_rfl) (by kernel_rfl) (fun _ hw => ⟨hw.it _ (.tail _ (.tail _ (.tail _ (.tail _ (.tail _ (.head _)))))), hw.it _ (.tail _ (.tail _ (.tail _ (.tail _ (.head _)))))⟩) (OV.load1 (v := .int .i64 parts) rfl T.u3 rfl (fun _ hw => (cell_at hw.2 (o := 1) rfl).1)) rfl (listed' := [true, true, true, true, false, false, false, false, false, false, false, false, false, false, false, false]) rfl ?_
  refine WH.free 4 rfl (by kernel_rfl) (by kernel_rfl) (by kernel_rfl) rfl (fun _ => (fun _ hw => ⟨hw.it _ (.tail _ (.tail _ (.tail _ (.tail _ (.tail _ (.head _)))))), hw.it _ (.tail _ (.tail _ (.tail _ (.tail _ (.head _)))))⟩)) (OV.move rfl) rfl (listed' := [true, true, true, true, true, false, false, false, false, false, false, false, false, false, false, false]) rfl ?_
  first
  | (refine WH.free 5 rfl (by kernel_rfl) (by kernel_rfl) (by kernel_rfl) rfl (fun _ => (fun _ hw => ⟨hw.it _ (.tail _ (.tail _ (.tail _ (.tail _ (.tail _ (.head _)))))), hw.it _ (.tail _ (.tail _ (.tail _ (.tail _ (.head _)))))⟩)) (OV.fieldAddr0 (off := 5) rfl T.u34 rfl) rfl (listed' := [true, true, true, true, true, true, false, false, false, false, false, false, false, false, false, false]) rfl ?_)
  | (refine WH.free 5 rfl (by kernel_rfl) (by kernel_rfl) (by kernel_rfl) rfl (fun _ => (fun _ hw => ⟨hw.it _ (.tail _ (.tail _ (.tail _ (.tail _ (.tail _ (.head _)))))), hw.it _ (.tail _ (.tail _ (.tail _ (.tail _ (.head _)))))⟩)) (OV.fieldAddr (off := 5) rfl T.u34 rfl) rfl (listed' := [true, true, true, true, true, true, false, false, false, false, false, false, false, false, false, false]) rfl ?_)
  refine WH.take 6 rfl (by kernel_rfl) (by kernel_rfl) (by kernel_rfl) (by kernel_rfl) (fun _ hw => ⟨hw.it _ (.tail _ (.tail _ (.tail _ (.tail _ (.tail _ (.head _)))))), hw.it _ (.tail _ (.tail _ (.tail _ (.tail _ (.head _)))))⟩) (OV.load1 (v := .slice a1 m1 c1) rfl T.u32 rfl (fun _ hw => (cell_at hw.2 (o := 5) rfl).1)) rfl (listed' := [true, true, true, true, true, true, true, false, false, false, false, false, false, false, false, false]) rfl ?_
  first
  | (refine WH.free 7 rfl (by kernel_rfl) (by kernel_rfl) (by kernel_rfl) rfl (fun _ => (fun _ hw => ⟨hw.it _ (.tail _ (.tail _ (.tail _ (.tail _ (.tail _ (.head _)))))), hw.it _ (.tail _ (.tail _ (.tail _ (.tail _ (.head _)))))⟩)) (OV.lenSlice rfl T.u32) rfl (listed' := [true, true, true, true, true, true, true, true, false, false, false, false, false, false, false, false]) rfl ?_)
  | (refine WH.free 7 rfl (by kernel_rfl) (by kernel_rfl) (by kernel_rfl) rfl (fun _ => (fun _ hw => ⟨hw.it _ (.tail _ (.tail _ (.tail _ (.tail _ (.tail _ (.head _)))))), hw.it _ (.tail _ (.tail _ (.tail _ (.tail _ (.head _)))))⟩)) (OV.lenStr rfl T.u32) rfl (listed' := [true, true, true, true, true, true, true, true, false, false, false, false, false, false, false, false]) rfl ?_)
  refine WH.free 8 rfl (by kernel_rfl) (by kernel_rfl) (by kernel_rfl) rfl (fun _ => (fun _ hw => ⟨hw.it _ (.tail _ (.tail _ (.tail _ (.tail _ (.tail _ (.head _)))))), hw.it _ (.tail _ (.tail _ (.tail _ (.tail _ (.head _)))))⟩)) (OV.sliceTo (h := m1) rfl T.u32 T.z3 rfl (by omega)) rfl (listed' := [true, true, true, true, true, true, true, true, true, false, false, false, false, false, false, false]) rfl ?_
  refine WH.free 9 rfl (by kernel_rfl) (by kernel_rfl) (by kernel_rfl) rfl (fun _ => (fun _ hw => ⟨hw.it _ (.tail _ (.tail _ (.tail _ (.tail _ (.tail _ (.head _)))))), hw.it _ (.tail _ (.tail _ (.tail _ (.tail _ (.head _)))))⟩)) (OV.move rfl) rfl (listed' := [true, true, true, true, true, true, true, true, true, true, false, false, false, false, false, false]) rfl ?_
  first
  | (refine WH.free 10 rfl (by kernel_rfl) (by kernel_rfl) (by kernel_rfl) rfl (fun _ => (fun _ hw => ⟨hw.it _ (.tail _ (.tail _ (.tail _ (.tail _ (.tail _ (.head _)))))), hw.it _ (.tail _ (.tail _ (.tail _ (.tail _ (.head _)))))⟩)) (OV.fieldAddr0 (off := 6) rfl T.u34 rfl) rfl (listed' := [true, true, true, true, true, true, true, true, true, true, true, false, false, false, false, false]) rfl ?_)
  | (refine WH.free 10 rfl (by kernel_rfl) (by kernel_rfl) (by kernel_rfl) rfl (fun _ => (fun _ hw => ⟨hw.it _ (.tail _ (.tail _ (.tail _ (.tail _ (.tail _ (.head _)))))), hw.it _ (.tail _ (.tail _ (.tail _ (.tail _ (.head _)))))⟩)) (OV.fieldAddr (off := 6) rfl T.u34 rfl) rfl (listed' := [true, true, true, true, true, true, true, true, true, true, true, false, false, false, false, false]) rfl ?_)
  refine WH.take 11 rfl (by kernel_rfl) (by kernel_rfl) (by kernel_rfl) (by kernel_rfl) (fun _ hw => ⟨hw.it _ (.tail _ (.tail _ (.tail _ (.tail _ (.tail _ (.head _)))))), hw.it _ (.tail _ (.tail _ (.tail _ (.tail _ (.head _)))))⟩) (OV.load1 (v := .slice a2 m2 c2) rfl T.u32 rfl (fun _ hw => (cell_at hw.2 (o := 6) rfl).1)) rfl (listed' := [true, true, true, true, true, true, true, true, true, true, true, true, false, false, false, false]) rfl ?_
  first
  | (refine WH.free 12 rfl (by kernel_rfl) (by kernel_rfl) (by kernel_rfl) rfl (fun _ => (fun _ hw => ⟨hw.it _ (.tail _ (.tail _ (.tail _ (.tail _ (.tail _ (.head _)))))), hw.it _ (.tail _ (.tail _ (.tail _ (.tail _ (.head _)))))⟩)) (OV.lenSlice rfl T.u32) rfl (listed' := [true, true, true, true, true, true, true, true, true, true, true, true, true, false, false, false]) rfl ?_)
  | (refine WH.free 12 rfl (by kernel_rfl) (by kernel_rfl) (by kernel_rfl) rfl (fun _ => (fun _ hw => ⟨hw.it _ (.tail _ (.tail _ (.tail _ (.tail _ (.tail _ (.head _)))))), hw.it _ (.tail _ (.tail _ (.tail _ (.tail _ (.head _)))))⟩)) (OV.lenStr rfl T.u32) rfl (listed' := [true, true, true, true, true, true, true, true, true, true, true, true, true, false, false, false]) rfl ?_)
  refine WH.free 13 rfl (by kernel_rfl) (by kernel_rfl) (by kernel_rfl) rfl (fun _ => (fun _ hw => ⟨hw.it _ (.tail _ (.tail _ (.tail _ (.tail _ (.tail _ (.head _)))))), hw.it _ (.tail _ (.tail _ (.tail _ (.tail _ (.head _)))))⟩)) (OV.sliceTo (h := m2) rfl T.u32 T.z3 rfl (by omega)) rfl (listed' := [true, true, true, true, true, true, true, true, true, true, true, true, true, true, false, false]) rfl ?_
  refine WH.only 14 rfl (by kernel_rfl) (listed' := [true, true, true, true, true, true, true, true, true, true, true, true, true, true, true, false]) rfl (fl' := false) rfl ?_
  refine WL.focus (ow' := relA g ++ (row 3 1 yk.a yk.l.length yk.c (ints yk.l) :: row 3 1 yc.a yc.l.length yc.c (ints yc.l) :: box1 b5 48 (.slice la ys.length lc) :: box1 b4 4 (.bool false) :: own b3 (.cells (opC kind parts stop two ra rm rc a1 m1 c1 a2 m2 c2).toArray 34 (0, 0)) :: own b2 (.cells [ptr g.r, ptr q.p].toArray 28 (0, 0)) :: (refA q ++ lstA la lc ys))) (perm_cat [[row 3 1 yk.a yk.l.length yk.c (ints yk.l), row 3 1 yc.a yc.l.length yc.c (ints yc.l), box1 b5 48 (.slice la ys.length lc), box1 b4 4 (.bool false), own b3 (.cells (opC kind parts stop two ra rm rc a1 m1 c1 a2 m2 c2).toArray 34 (0, 0)), own b2 (.cells [ptr g.r, ptr q.p].toArray 28 (0, 0))], relA g, refA q, lstA la lc ys] [1, 0, 2, 3] (by decide) rfl) ?_
  refine WL.callTA (ι := FB) (vs := [ptr g.r, .int .i64 parts, .slice yc.a m1 yc.c, .slice yk.a m2 yk.c]) (vv := fun F => F.fn) (pp := fun F => F.r = g.r ∧ F.parts = parts ∧ QR g.width cols key F.ls F.ks F.b ∧ RelOK (colG g F.col)) (relA g) (AA := fun F => relA (colG g F.col) ++ boxA F) rfl (by kernel_rfl) rfl rfl (fun w' hw' hH => (find_calls g t.ok parts cols key yc.a m1 yc.c yk.a m2 yk.c hc hk (by omega) (by omega) w' ((hyc ▸ RI.of_row (c := yc.c) hw' (List.mem_append_right _ (.tail _ (.head _)))).pre hr1.1) ((hyk ▸ RI.of_row (c := yk.c) hw' (List.mem_append_right _ (.head _))).pre hr2.1) (fun b hb _ => Sat.sepO hw' (i := row 3 1 yc.a yc.l.length yc.c (ints yc.l)) (.tail _ (.head _)) ⟨b, hb, rfl⟩) (fun b hb _ => Sat.sepO hw' (i := row 3 1 yk.a yk.l.length yk.c (ints yk.l)) (.head _) ⟨b, hb, rfl⟩) hH).mono (fun en w'' ⟨F, h1, h2, h3, h4, h5, h6⟩ => ⟨F, h1, ⟨h2, h3, h4, h5⟩, h6⟩)) ?_
  rintro F hpp
  obtain ⟨hFr, hFp, hFq, g2ok⟩ : F.r = g.r ∧ F.parts = parts ∧ QR g.width cols key F.ls F.ks F.b ∧ RelOK (colG g F.col) := hpp
  refine WL.focus (ow' := row 3 1 yk.a yk.l.length yk.c (ints yk.l) :: row 3 1 yc.a yc.l.length yc.c (ints yc.l) :: box1 b5 48 (.slice la ys.length lc) :: box1 b4 4 (.bool false) :: own b3 (.cells (opC kind parts stop two ra rm rc a1 m1 c1 a2 m2 c2).toArray 34 (0, 0)) :: own b2 (.cells [ptr g.r, ptr q.p].toArray 28 (0, 0)) :: ((relA (colG g F.col) ++ boxA F) ++ (refA q ++ lstA la lc ys))) (perm_cat [relA (colG g F.col) ++ boxA F, [row 3 1 yk.a yk.l.length yk.c (ints yk.l), row 3 1 yc.a yc.l.length yc.c (ints yc.l), box1 b5 48 (.slice la ys.length lc), box1 b4 4 (.bool false), own b3 (.cells (opC kind parts stop two ra rm rc a1 m1 c1 a2 m2 c2).toArray 34 (0, 0)), own b2 (.cells [ptr g.r, ptr q.p].toArray 28 (0, 0))], refA q, lstA la lc ys] [1, 0, 2, 3] (by decide) rfl) ?_
  refine WL.nil ?_
  refine WX.contD (by kernel_rfl) (fun _ => (fun _ hw => ⟨hw.it _ (.tail _ (.tail _ (.tail _ (.tail _ (.tail _ (.head _)))))), hw.it _ (.tail _ (.tail _ (.tail _ (.tail _ (.head _)))))⟩)) ?_
  refine WH.free 15 rfl (by kernel_rfl) (by kernel_rfl) (by kernel_rfl) rfl (fun _ => (fun _ hw => ⟨hw.it _ (.tail _ (.tail _ (.tail _ (.tail _ (.tail _ (.head _)))))), hw.it _ (.tail _ (.tail _ (.tail _ (.tail _ (.head _)))))⟩)) (OV.assign rfl) rfl (listed' := [true, true, true, true, true, true, true, true, true, true, true, true, true, true, true, true]) rfl ?_
  refine WH.done (by kernel_rfl) ?_
  refine WX.next ?_
  refine WC.seq ?_
  refine WC.seq ?_
  refine WC.region ?_
  refine WL.val (OV.move rfl) rfl ?_
  refine WL.val (OV.eqlFN T.u42 rfl rfl) rfl ?_
  refine WL.val (OV.move rfl) rfl ?_
  refine WL.known (t := 46) (b := false) rfl (by rfl) ?_
  refine WL.go (b := false) rfl rfl rfl ?_
  refine WL.val (OV.move rfl) rfl ?_
  refine WL.go (b := false) rfl rfl rfl ?_
  first
  | (refine WL.val (OV.fieldAddr0 (off := 5) rfl T.u34 rfl) rfl ?_)
  | (refine WL.val (OV.fieldAddr (off := 5) rfl T.u34 rfl) rfl ?_)
  refine WL.go (b := false) rfl rfl rfl ?_
  refine WL.val (OV.load1 (v := .slice a1 m1 c1) rfl T.u32 rfl (fun _ hw => (cell_at (hw.it _ (.tail _ (.tail _ (.tail _ (.tail _ (.head _)))))) (o := 5) rfl).1)) rfl ?_
  refine WL.go (b := false) rfl rfl rfl ?_
  have hcl : yc.l.length = cols.length + 3 := by rw [hyc]; simp
  have hkl : yk.l.length = key.length + 3 := by rw [hyk]; simp
  have hc0 := hr1.1
  have hk0 := hr2.1
  refine WL.callTA (ι := Col) (vs := [.slice a1 m1 c1]) (vv := encC) (pp := fun y => y.l = cols ++ [71, 72, 73]) [] (AA := fun y => [row 3 1 y.a y.l.length y.c (ints y.l)]) rfl (by kernel_rfl) rfl rfl (fun w' hw' _ => (roomy_calls cols a1 m1 c1 (by omega) w' (hr1.satA hne1 hw')).mono (fun en w'' ⟨y, h1, h2, h3⟩ => ⟨y, h1, h2, h3⟩)) ?_
  intro yd hyd
  have hyd : yd.l = cols ++ [71, 72, 73] := hyd
  have hdl : yd.l.length = cols.length + 3 := by rw [hyd]; simp
  refine WL.go (b := false) rfl rfl rfl ?_
  refine WL.call0 (v := .bool true) (vs := [encC yc, encC yd]) (by kernel_rfl) rfl rfl (fun w' hw' => (same_calls yc.l yd.l yc.a yd.a yc.l.length yc.c yd.l.length yd.c (by omega) (by omega) w' (RI.of_row (c := yc.c) hw' (.tail _ (.tail _ (.head _)))) (RI.of_row (c := yd.c) hw' (.head _))).mono (fun en w'' ⟨h1, h2⟩ => ⟨h1.trans (by rw [decide_eq_true (hyc.trans hyd.symm)]), h2⟩)) ?_
  refine WL.go (b := false) rfl rfl rfl ?_
  refine WL.val (OV.not rfl) rfl ?_
  refine WL.val (OV.pickF rfl rfl) rfl ?_
  refine WL.val (OV.move rfl) rfl ?_
  refine WL.known (t := 54) (b := false) rfl (by rfl) ?_
  refine WL.go (b := false) rfl rfl rfl ?_
  refine WL.val (OV.move rfl) rfl ?_
  refine WL.go (b := false) rfl rfl rfl ?_
  first
  | (refine WL.val (OV.fieldAddr0 (off := 6) rfl T.u34 rfl) rfl ?_)
  | (refine WL.val (OV.fieldAddr (off := 6) rfl T.u34 rfl) rfl ?_)
  refine WL.go (b := false) rfl rfl rfl ?_
  refine WL.val (OV.load1 (v := .slice a2 m2 c2) rfl T.u32 rfl (fun _ hw => (cell_at (hw.it _ (.tail _ (.tail _ (.tail _ (.tail _ (.tail _ (.head _))))))) (o := 6) rfl).1)) rfl ?_
  refine WL.go (b := false) rfl rfl rfl ?_
  refine WL.callTA (ι := Col) (vs := [.slice a2 m2 c2]) (vv := encC) (pp := fun y => y.l = key ++ [71, 72, 73]) [] (AA := fun y => [row 3 1 y.a y.l.length y.c (ints y.l)]) rfl (by kernel_rfl) rfl rfl (fun w' hw' _ => (roomy_calls key a2 m2 c2 (by omega) w' (hr2.satA hne2 hw')).mono (fun en w'' ⟨y, h1, h2, h3⟩ => ⟨y, h1, h2, h3⟩)) ?_
  intro ye hye
  have hye : ye.l = key ++ [71, 72, 73] := hye
  have hel : ye.l.length = key.length + 3 := by rw [hye]; simp
  refine WL.go (b := false) rfl rfl rfl ?_
  refine WL.call0 (v := .bool true) (vs := [encC yk, encC ye]) (by kernel_rfl) rfl rfl (fun w' hw' => (same_calls yk.l ye.l yk.a ye.a yk.l.length yk.c ye.l.length ye.c (by omega) (by omega) w' (RI.of_row (c := yk.c) hw' (.tail _ (.tail _ (.head _)))) (RI.of_row (c := ye.c) hw' (.head _))).mono (fun en w'' ⟨h1, h2⟩ => ⟨h1.trans (by rw [decide_eq_true (hyk.trans hye.symm)]), h2⟩)) ?_
  refine WL.go (b := false) rfl rfl rfl ?_
  refine WL.val (OV.not rfl) rfl ?_
  refine WL.val (OV.pickF rfl rfl) rfl ?_
  refine WL.nil ?_
  refine WX.next ?_
  refine WC.condF (show _ = some (Value.bool false) from by rfl) ?_
  refine WC.skip ?_
  refine WX.next ?_
  refine WC.seq ?_
  refine WC.seq ?_
  have hFL : ys.map Col.l = selR (rp g) parts cols key := by rw [hys, t.rows, ← sel_filter]
  have hcl := t.qok.cl
  have hyq : ys.length ≤ q.cols.length := by
    have h1 := congrArg List.length hys
    have h2 := List.length_filter_le (fun r : List Int => decide (fitsL r cols key)) (rowsQ q parts)
    have h3 := rowsQ_len t.qok parts
    rw [List.length_map] at h1
    omega
  have hAL : ∀ l ∈ ys.map Col.l, l.length ≤ 1099511627776 := fun l hl => t.qok.rl l (rowsQ_all (List.mem_filter.1 (hys ▸ hl)).1)
  refine WC.know (fun w' hw => (lst_addr (lc := lc) (la := la) (ys := ys) hw (by simp) : 0 < ys.length → ∃ q, la = some ⟨q, 0, none⟩)) (fun hla => ?_)
  refine WC.weak (S' := Sat w (DD (relA g ++ refA q)) (fun b => b < w.heap.size ∧ ¬ DD (relA g ++ refA q) b) w (row 3 1 yc.a yc.l.length yc.c (ints yc.l) :: row 3 1 yk.a yk.l.length yk.c (ints yk.l) :: ((relA (colG g F.col) ++ boxA F) ++ (([box1 b5 48 (.slice la ys.length lc), own b3 (.cells (opC kind parts stop two ra rm rc a1 m1 c1 a2 m2 c2).toArray 34 (0, 0)), box1 b4 4 (.bool false)] ++ lstA la lc ys) ++ refA q)))) (fun w' hw => hw.pick [[row 3 1 ye.a ye.l.length ye.c (ints ye.l), row 3 1 yd.a yd.l.length yd.c (ints yd.l)], [row 3 1 yk.a yk.l.length yk.c (ints yk.l)], [row 3 1 yc.a yc.l.length yc.c (ints yc.l)], [box1 b5 48 (.slice la ys.length lc)], [box1 b4 4 (.bool false)], [own b3 (.cells (opC kind parts stop two ra rm rc a1 m1 c1 a2 m2 c2).toArray 34 (0, 0))], [own b2 (.cells [ptr g.r, ptr q.p].toArray 28 (0, 0))], (relA (colG g F.col) ++ boxA F), refA q, lstA la lc ys] [2, 1, 7, 3, 5, 4, 9, 8] 10 rfl (by decide) (by decide)) ?_
  refine WC.region ?_
  refine WL.val (OV.assign rfl) rfl ?_
  refine WL.nil ?_
  refine WX.next ?_
  refine WC.block ?_
  refine WC.loop2 (fun (i : Nat) (xs : List Value) => [(3, .pointer (some ⟨b3, 0, none⟩)), (4, .pointer (some ⟨b4, 0, none⟩)), (5, .pointer (some ⟨b5, 0, none⟩)), (6, .slice yc.a yc.l.length yc.c), (7, .slice yk.a yk.l.length yk.c), (8, F.fn), (9, .int .i64 (i : Int))])
      (fun i xs w' => (i ≤ yc.l.length ∧ xs.length = yc.l.length) ∧ Sat w (DD (relA g ++ refA q)) (fun b => b < w.heap.size ∧ ¬ DD (relA g ++ refA q) b) w (row 3 1 yc.a yc.l.length yc.c xs :: row 3 1 yk.a yk.l.length yk.c (ints yk.l) :: ((relA (colG g F.col) ++ boxA F) ++ (([box1 b5 48 (.slice la ys.length lc), own b3 (.cells (opC kind parts stop two ra rm rc a1 m1 c1 a2 m2 c2).toArray 34 (0, 0)), box1 b4 4 (.bool false)] ++ lstA la lc ys) ++ refA q))) w')
      (fun i _ => yc.l.length - i) 0 (ints yc.l) ⟨rfl, rfl, rfl, rfl, rfl, rfl, rfl, trivial⟩ (fun w' hw => ⟨⟨by omega, ints_length _⟩, hw⟩) ?_
  intro i xs
  refine WC.pure (fun hi => ?_)
  obtain ⟨hi, hxl⟩ := hi
  refine WC.seq ?_
  refine WC.seq ?_
  refine WC.region ?_
  refine WL.val (OV.move rfl) rfl ?_
  refine WL.val (OV.move rfl) rfl ?_
  first
  | (refine WL.val (OV.lenSlice rfl T.u32) rfl ?_)
  | (refine WL.val (OV.lenStr rfl T.u32) rfl ?_)
  refine WL.val (OV.lss rfl rfl) rfl ?_
  refine WL.nil ?_
  refine WX.next ?_
  refine WC.cond rfl (fun c65 => ?_) (fun c65 => ?_)
  · try simp only [decide_eq_true_eq, decide_eq_false_iff_not, Bool.not_eq_true', Bool.not_eq_false'] at c65
    refine WC.skip ?_
    refine WX.next ?_
    refine WC.seq ?_
    refine WC.block ?_
    refine WC.region ?_
    refine WL.val (OV.move rfl) rfl ?_
    refine WL.val (OV.move rfl) rfl ?_
    refine WL.val ((OV.indexSliceA (a := ⟨bc, 0, none⟩) (i := i) (show _ = some (Value.slice (some ⟨bc, 0, none⟩) yc.l.length yc.c) by rw [← hbc]; rfl) rfl T.u32 T.z3 (by omega)).cast (u := .pointer (some ⟨bc, i, none⟩)) (by rw [add_off, Nat.zero_add])) rfl ?_
    refine WL.storeRow (o := i) rfl hbc rfl rfl T.z3 (by omega) ?_
    refine WL.nil ?_
    refine WX.block_normal ?_
    refine WX.next ?_
    refine WC.region ?_
    refine WL.val (OV.move rfl) rfl ?_
    refine WL.val (OV.addN (j := 1) rfl rfl (by omega)) rfl ?_
    refine WL.val (OV.assign rfl) rfl ?_
    refine WL.nil ?_
    exact WX.round2 (i + 1) (xs.set i (.int .i64 0)) ⟨rfl, rfl, rfl, rfl, rfl, rfl, rfl, trivial⟩ (fun w' hw => ⟨⟨by omega, by simpa using hxl⟩, hw⟩) (by show yc.l.length - (i + 1) < yc.l.length - i; omega)
  · try simp only [decide_eq_true_eq, decide_eq_false_iff_not, Bool.not_eq_true', Bool.not_eq_false'] at c65
    refine WC.exit ?_
    refine WX.then_exit ?_
    refine WX.then_exit ?_
    refine WX.block_hit ?_
    refine WX.next ?_
    refine WC.seq ?_
    refine WC.seq ?_
    refine WC.region ?_
    refine WL.val (OV.assign rfl) rfl ?_
    refine WL.nil ?_
    refine WX.next ?_
    refine WC.block ?_
    refine WC.loop2 (fun (i : Nat) (xs : List Value) => [(3, .pointer (some ⟨b3, 0, none⟩)), (4, .pointer (some ⟨b4, 0, none⟩)), (5, .pointer (some ⟨b5, 0, none⟩)), (6, .slice yc.a yc.l.length yc.c), (7, .slice yk.a yk.l.length yk.c), (8, F.fn), (10, .int .i64 (i : Int))])
        (fun i xs w' => (i ≤ yk.l.length ∧ xs.length = yk.l.length) ∧ Sat w (DD (relA g ++ refA q)) (fun b => b < w.heap.size ∧ ¬ DD (relA g ++ refA q) b) w (row 3 1 yk.a yk.l.length yk.c xs :: ((relA (colG g F.col) ++ boxA F) ++ (([box1 b5 48 (.slice la ys.length lc), own b3 (.cells (opC kind parts stop two ra rm rc a1 m1 c1 a2 m2 c2).toArray 34 (0, 0)), box1 b4 4 (.bool false)] ++ lstA la lc ys) ++ refA q))) w')
        (fun i _ => yk.l.length - i) 0 (ints yk.l) ⟨rfl, rfl, rfl, rfl, rfl, rfl, rfl, trivial⟩ (fun w' hw => ⟨⟨by omega, ints_length _⟩, hw.drop⟩) ?_
    intro i xs
    refine WC.pure (fun hi => ?_)
    obtain ⟨hi, hxl⟩ := hi
    refine WC.seq ?_
    refine WC.seq ?_
    refine WC.region ?_
    refine WL.val (OV.move rfl) rfl ?_
    refine WL.val (OV.move rfl) rfl ?_
    first
    | (refine WL.val (OV.lenSlice rfl T.u32) rfl ?_)
    | (refine WL.val (OV.lenStr rfl T.u32) rfl ?_)
    refine WL.val (OV.lss rfl rfl) rfl ?_
    refine WL.nil ?_
    refine WX.next ?_
    refine WC.cond rfl (fun c74 => ?_) (fun c74 => ?_)
    · try simp only [decide_eq_true_eq, decide_eq_false_iff_not, Bool.not_eq_true', Bool.not_eq_false'] at c74
      refine WC.skip ?_
      refine WX.next ?_
      refine WC.seq ?_
      refine WC.block ?_
      refine WC.region ?_
      refine WL.val (OV.move rfl) rfl ?_
      refine WL.val (OV.move rfl) rfl ?_
      refine WL.val ((OV.indexSliceA (a := ⟨bk, 0, none⟩) (i := i) (show _ = some (Value.slice (some ⟨bk, 0, none⟩) yk.l.length yk.c) by rw [← hbk]; rfl) rfl T.u32 T.z3 (by omega)).cast (u := .pointer (some ⟨bk, i, none⟩)) (by rw [add_off, Nat.zero_add])) rfl ?_
      refine WL.storeRow (o := i) rfl hbk rfl rfl T.z3 (by omega) ?_
      refine WL.nil ?_
      refine WX.block_normal ?_
      refine WX.next ?_
      refine WC.region ?_
      refine WL.val (OV.move rfl) rfl ?_
      refine WL.val (OV.addN (j := 1) rfl rfl (by omega)) rfl ?_
      refine WL.val (OV.assign rfl) rfl ?_
      refine WL.nil ?_
      exact WX.round2 (i + 1) (xs.set i (.int .i64 1)) ⟨rfl, rfl, rfl, rfl, rfl, rfl, rfl, trivial⟩ (fun w' hw => ⟨⟨by omega, by simpa using hxl⟩, hw⟩) (by show yk.l.length - (i + 1) < yk.l.length - i; omega)
    · try simp only [decide_eq_true_eq, decide_eq_false_iff_not, Bool.not_eq_true', Bool.not_eq_false'] at c74
      refine WC.exit ?_
      refine WX.then_exit ?_
      refine WX.then_exit ?_
      refine WX.block_hit ?_
      refine WX.next ?_
      refine WC.seq ?_
      refine WC.seq ?_
      refine WC.region ?_
      refine WL.alloc T.zr3 rfl ?_
      intro b11
      refine WL.store1 (o := 0) rfl rfl rfl T.z3 Nat.zero_lt_one ?_
      refine WL.nil ?_
      refine WX.next ?_
      refine WC.block ?_
      refine WC.loopM (ι := Nat × Nat × RelG × List Nat) (fun x => mks x.2.2.2) (fun x => [(3, .pointer (some ⟨b3, 0, none⟩)), (4, .pointer (some ⟨b4, 0, none⟩)), (5, .pointer (some ⟨b5, 0, none⟩)), (8, F.fn), (11, .pointer (some ⟨x.2.1, 0, none⟩))])
          (fun x w' => (x.1 ≤ 2 ∧ RelOK x.2.2.1 ∧ RelLe (colG g F.col) x.2.2.1 ∧ x.2.2.1.es = g.es) ∧ Sat w (DD (relA g ++ refA q)) (fun b => b < w.heap.size ∧ ¬ DD (relA g ++ refA q) b) w ([box1 x.2.1 3 (.int .i64 ((x.1 : Nat) : Int))] ++ ((relA x.2.2.1 ++ boxA F) ++ (([box1 b5 48 (.slice la ys.length lc), own b3 (.cells (opC kind parts stop two ra rm rc a1 m1 c1 a2 m2 c2).toArray 34 (0, 0)), box1 b4 4 (.bool false)] ++ lstA la lc ys) ++ (refA q ++ mkA x.2.2.2)))) w')
          (fun x => 2 - x.1) (0, b11, colG g F.col, []) rfl ⟨rfl, rfl, rfl, rfl, rfl, trivial⟩ (fun w' hw => ⟨⟨by omega, g2ok, RelLe.refl _, rfl⟩, by
            have h2 := hw.pick [[box1 b11 3 (.int .i64 ((0 : Nat) : Int))], [row 3 1 yk.a yk.l.length yk.c xs], (relA (colG g F.col) ++ boxA F), ([box1 b5 48 (.slice la ys.length lc), own b3 (.cells (opC kind parts stop two ra rm rc a1 m1 c1 a2 m2 c2).toArray 34 (0, 0)), box1 b4 4 (.bool false)] ++ lstA la lc ys), refA q] [0, 2, 3, 4] 5 rfl (by decide) (by decide)
            exact h2.perm (List.Perm.of_eq (by simp [cat, mkA]))⟩) ?_
      rintro ⟨i, c11, g1, Ds⟩
      refine WC.pure (fun hi => ?_)
      obtain ⟨hi, ok1, le1, hes1⟩ : i ≤ 2 ∧ RelOK g1 ∧ RelLe (colG g F.col) g1 ∧ g1.es = g.es := hi
      refine WC.seq ?_
      refine WC.seq ?_
      refine WC.region ?_
      refine WL.val (OV.load1 (v := .int .i64 (i : Int)) rfl T.u3 rfl (fun _ hw => (cell_at (hw.it _ (.head _)) (o := 0) rfl).1)) rfl ?_
      refine WL.val (OV.lss rfl rfl) rfl ?_
      refine WL.nil ?_
      refine WX.next ?_
      refine WC.cond rfl (fun c81 => ?_) (fun c81 => ?_)
      · try simp only [decide_eq_true_eq, decide_eq_false_iff_not, Bool.not_eq_true', Bool.not_eq_false'] at c81
        refine WC.skip ?_
        refine WX.next ?_
        refine WC.seq ?_
        refine WC.block ?_
        refine WC.seq ?_
        refine WC.region ?_
        refine WL.alloc T.zr3 rfl ?_
        intro b12
        refine WL.store1 (o := 0) rfl rfl rfl T.z3 Nat.zero_lt_one ?_
        refine WL.nil ?_
        refine WX.next ?_
        refine WC.seq ?_
        refine WC.seq ?_
        refine WC.region ?_
        refine WL.val (OV.move rfl) rfl ?_
        refine WL.nil ?_
        refine WX.next ?_
        refine WC.block ?_
        refine WC.focus (ow' := (relA g1 ++ boxA F) ++ (([box1 b12 3 (.int .i64 ((0 : Nat) : Int)), box1 c11 3 (.int .i64 (i : Int))] ++ ([box1 b5 48 (.slice la ys.length lc), own b3 (.cells (opC kind parts stop two ra rm rc a1 m1 c1 a2 m2 c2).toArray 34 (0, 0)), box1 b4 4 (.bool false)] ++ lstA la lc ys)) ++ (refA q ++ mkA Ds))) (perm_cat [[box1 b12 3 (.int .i64 ((0 : Nat) : Int)), box1 c11 3 (.int .i64 (i : Int))], (relA g1 ++ boxA F), ([box1 b5 48 (.slice la ys.length lc), own b3 (.cells (opC kind parts stop two ra rm rc a1 m1 c1 a2 m2 c2).toArray 34 (0, 0)), box1 b4 4 (.bool false)] ++ lstA la lc ys), refA q, mkA Ds] [1, 0, 2, 3, 4] (by decide) rfl) ?_
        refine WC.rangeFunc (RA := fun q2 => (relA q2 ++ boxA F)) (CC := fun nn : Nat => ([box1 b12 3 (.int .i64 ((nn : Nat) : Int)), box1 c11 3 (.int .i64 (i : Int))] ++ ([box1 b5 48 (.slice la ys.length lc), own b3 (.cells (opC kind parts stop two ra rm rc a1 m1 c1 a2 m2 c2).toArray 34 (0, 0)), box1 b4 4 (.bool false)] ++ lstA la lc ys))) (EI := EIr) (arg := argr) (xs := ys.map Col.l) (g0 := g1) (y0 := 0) (R01 := fun q2 => RelOK q2 ∧ RelLe g1 q2 ∧ q2.es = g1.es) (Mono := fun q2 => RelLe g1 q2) (gf := 29) (caps := F.caps) (ow := refA q ++ mkA Ds) rfl rfl (by kernel_rfl) rfl (fun w' _ => by
            rw [show ys.map Col.l = selR (rp g1) F.parts cols key by rw [hFL, hFp, show rp g1 = rp g by unfold rp; rw [hes1]]]
            exact find1_iter F g1 ok1 cols key (by rw [show g1.width = g.width from le1.width]; exact hFq) (by rw [show g1.r = g.r from le1.r]; exact hFr) (le1.cols _ (List.mem_append_right _ (.head _))) w')
          (fun k q2 nn => RelOK q2 ∧ RelLe g1 q2 ∧ q2.es = g1.es ∧ nn = k) (fun c k q2 nn => c = .exit 6 ∧ RelOK q2 ∧ RelLe g1 q2 ∧ q2.es = g1.es ∧ i = 0 ∧ ((nn : Nat) : Int) = stop ∧ nn ≤ ys.length) (fun q2 hq => ⟨hq.1, hq.2.1, hq.2.2, rfl⟩) (fun k q2 y h => h.2.1) ?_ ?_ ?_
        · rintro l lr k g2 nn d W x hxs hJ hS
          obtain ⟨ok2, le2, hes2, hnn⟩ : RelOK g2 ∧ RelLe g1 g2 ∧ g2.es = g1.es ∧ nn = k := hJ
          have hkl : k < ys.length := by have := (List.getElem?_eq_some_iff.1 hxs).1; rwa [List.length_map] at this
          refine WC.region ?_
          refine WL.val (OV.assign rfl) rfl ?_
          refine WL.nil ?_
          refine WX.begin ?_
          refine WC.focus (ow' := box1 b12 3 (.int .i64 ((nn : Nat) : Int)) :: box1 c11 3 (.int .i64 (i : Int)) :: box1 b5 48 (.slice la ys.length lc) :: own b3 (.cells (opC kind parts stop two ra rm rc a1 m1 c1 a2 m2 c2).toArray 34 (0, 0)) :: box1 b4 4 (.bool false) :: row 32 1 la ys.length lc (ys.map encC) :: (ys.flatMap colA ++ (row 3 1 d.1 x.length d.2 (ints x) :: own l (lr.ob .busy none) :: (relA g2 ++ boxA F)))) (perm_cat [[own l (lr.ob .busy none)], [row 3 1 d.1 x.length d.2 (ints x)], (relA g2 ++ boxA F), ([box1 b12 3 (.int .i64 ((nn : Nat) : Int)), box1 c11 3 (.int .i64 (i : Int))] ++ ([box1 b5 48 (.slice la ys.length lc), own b3 (.cells (opC kind parts stop two ra rm rc a1 m1 c1 a2 m2 c2).toArray 34 (0, 0)), box1 b4 4 (.bool false)] ++ lstA la lc ys))] [3, 1, 0, 2] (by decide) rfl) ?_
          refine WC.block ?_
          refine WC.seq ?_
          refine WC.seq ?_
          refine WC.region ?_
          refine WL.val (OV.load1 (v := .int .i64 ((nn : Nat) : Int)) rfl T.u3 rfl (fun _ hw => (cell_at (hw.it _ (.head _)) (o := 0) rfl).1)) rfl ?_
          refine WL.val (OV.load1 (v := .slice la ys.length lc) rfl T.u48 rfl (fun _ hw => (cell_at (hw.it _ (.tail _ (.tail _ (.head _)))) (o := 0) rfl).1)) rfl ?_
          first
          | (refine WL.val (OV.lenSlice rfl T.u48) rfl ?_)
          | (refine WL.val (OV.lenStr rfl T.u48) rfl ?_)
          refine WL.val (OV.geq rfl rfl) rfl ?_
          refine WL.val (OV.move rfl) rfl ?_
          refine WL.known (t := 90) (b := false) rfl (by exact decide_eq_false (by omega)) ?_
          refine WL.go (b := false) rfl rfl rfl ?_
          refine WL.val (OV.move rfl) rfl ?_
          refine WL.go (b := false) rfl rfl rfl ?_
          refine WL.val (OV.load1 (v := .slice la ys.length lc) rfl T.u48 rfl (fun _ hw => (cell_at (hw.it _ (.tail _ (.tail _ (.head _)))) (o := 0) rfl).1)) rfl ?_
          refine WL.go (b := false) rfl rfl rfl ?_
          refine WL.val (OV.load1 (v := .int .i64 ((nn : Nat) : Int)) rfl T.u3 rfl (fun _ hw => (cell_at (hw.it _ (.head _)) (o := 0) rfl).1)) rfl ?_
          refine WL.go (b := false) rfl rfl rfl ?_
          have hnl : nn < ys.length := by omega
          obtain ⟨y, hy, hym, hyl⟩ := col_at (rows := ys.map Col.l) rfl (k := nn) hnl
          obtain ⟨q5, hq5⟩ := hla (by omega)
          have hyx : x = y.l := by rw [hnn] at hyl; exact Option.some.inj (hxs.symm.trans hyl)
          have hyn : y.l.length ≤ 1099511627776 := hAL y.l (List.mem_map.2 ⟨y, hym, rfl⟩)
          refine WL.val (OV.indexSliceA (a := ⟨q5, 0, none⟩) (i := nn) (show _ = some (Value.slice (some ⟨q5, 0, none⟩) ys.length lc) by rw [← hq5]; rfl) rfl T.u48 T.z32 (by omega)) rfl ?_
          refine WL.go (b := false) rfl rfl rfl ?_
          refine WL.val (OV.load1 (v := encC y) rfl T.u32 rfl (fun _ hw => row_cellsE hw hq5 (.tail _ (.tail _ (.tail _ (.tail _ (.tail _ (.head _)))))) nn _ (by rw [List.getElem?_map, hy]; rfl))) rfl ?_
          refine WL.go (b := false) rfl rfl rfl ?_
          refine WL.call0 (v := .bool true) (vs := [argr x d, encC y]) (by kernel_rfl) rfl rfl (fun w' hw' => (same_calls x y.l d.1 y.a x.length d.2 y.l.length y.c (by rw [hyx]; exact hyn) hyn w' (RI.of_row (c := d.2) hw' (by simp)) (RI.of_row (c := y.c) hw' (.tail _ (.tail _ (.tail _ (.tail _ (.tail _ (.tail _ (List.mem_append_left _ (List.mem_flatMap.2 ⟨y, hym, .head _⟩)))))))))).mono (fun en w'' ⟨h1, h2⟩ => ⟨h1.trans (by rw [decide_eq_true hyx]), h2⟩)) ?_
          refine WL.go (b := false) rfl rfl rfl ?_
          refine WL.val (OV.not rfl) rfl ?_
          refine WL.val (OV.pickF rfl rfl) rfl ?_
          refine WL.nil ?_
          refine WX.next ?_
          refine WC.condF (show _ = some (Value.bool false) from by rfl) ?_
          refine WC.skip ?_
          refine WX.next ?_
          refine WC.seq ?_
          refine WC.region ?_
          refine WL.val (OV.load1 (v := .int .i64 ((nn : Nat) : Int)) rfl T.u3 rfl (fun _ hw => (cell_at (hw.it _ (.head _)) (o := 0) rfl).1)) rfl ?_
          refine WL.val (OV.addN (j := 1) rfl rfl (by omega)) rfl ?_
          refine WL.store1 (o := 0) rfl rfl rfl T.z3 Nat.zero_lt_one ?_
          refine WL.nil ?_
          refine WX.next ?_
          refine WC.seq ?_
          refine WC.region ?_
          refine WL.val (OV.load1 (v := .int .i64 (i : Int)) rfl T.u3 rfl (fun _ hw => (cell_at (hw.it _ (.tail _ (.head _))) (o := 0) rfl).1)) rfl ?_
          refine WL.val (OV.eql rfl rfl) rfl ?_
          refine WL.val (OV.move rfl) rfl ?_
          refine WL.split (t := 103) rfl (fun g103 => ?_) (fun g103 => ?_)
          · try simp only [decide_eq_true_eq, decide_eq_false_iff_not, Bool.not_eq_true', Bool.not_eq_false'] at g103
            refine WL.go (b := true) rfl rfl rfl ?_
            refine WL.val (OV.load1 (v := .int .i64 ((nn + 1 : Nat) : Int)) rfl T.u3 rfl (fun _ hw => (cell_at (hw.it _ (.head _)) (o := 0) rfl).1)) rfl ?_
            refine WL.go (b := true) rfl rfl rfl ?_
            first
            | (refine WL.val (OV.fieldAddr0 (off := 2) rfl T.u34 rfl) rfl ?_)
            | (refine WL.val (OV.fieldAddr (off := 2) rfl T.u34 rfl) rfl ?_)
            refine WL.go (b := true) rfl rfl rfl ?_
            refine WL.val (OV.load1 (v := .int .i64 stop) rfl T.u3 rfl (fun _ hw => (cell_at (hw.it _ (.tail _ (.tail _ (.tail _ (.head _))))) (o := 2) rfl).1)) rfl ?_
            refine WL.go (b := true) rfl rfl rfl ?_
            refine WL.val (OV.eql rfl rfl) rfl ?_
            refine WL.val (OV.pickT rfl rfl) rfl ?_
            refine WL.nil ?_
            refine WX.next ?_
            refine WC.cond rfl (fun c108 => ?_) (fun c108 => ?_)
            · try simp only [decide_eq_true_eq, decide_eq_false_iff_not, Bool.not_eq_true', Bool.not_eq_false'] at c108
              refine WC.exit ?_
              refine WX.block_miss rfl ?_
              refine WX.focus (ow' := own l (lr.ob .busy none) :: (([box1 b12 3 (.int .i64 ((nn + 1 : Nat) : Int)), box1 c11 3 (.int .i64 (i : Int))] ++ ([box1 b5 48 (.slice la ys.length lc), own b3 (.cells (opC kind parts stop two ra rm rc a1 m1 c1 a2 m2 c2).toArray 34 (0, 0)), box1 b4 4 (.bool false)] ++ lstA la lc ys)) ++ (row 3 1 d.1 x.length d.2 (ints x) :: (relA g2 ++ boxA F)))) (perm_cat [([box1 b12 3 (.int .i64 ((nn + 1 : Nat) : Int)), box1 c11 3 (.int .i64 (i : Int))] ++ ([box1 b5 48 (.slice la ys.length lc), own b3 (.cells (opC kind parts stop two ra rm rc a1 m1 c1 a2 m2 c2).toArray 34 (0, 0)), box1 b4 4 (.bool false)] ++ lstA la lc ys)), [row 3 1 d.1 x.length d.2 (ints x)], [own l (lr.ob .busy none)], (relA g2 ++ boxA F)] [2, 0, 1, 3] (by decide) rfl) (WX.roundExit (fun w' hw => ⟨g2, nn + 1, lr.ob .done (some (.exit 6)), fun h => (by cases h), fun _ => ⟨.exit 6, ⟨rfl, ok2, le2, hes2, by omega, c108, by omega⟩, rfl⟩, ?_⟩))
              exact Hw.Sat.turned (hw.pick [[own l (lr.ob .done (some (.exit 6)))], ([box1 b12 3 (.int .i64 ((nn + 1 : Nat) : Int)), box1 c11 3 (.int .i64 (i : Int))] ++ ([box1 b5 48 (.slice la ys.length lc), own b3 (.cells (opC kind parts stop two ra rm rc a1 m1 c1 a2 m2 c2).toArray 34 (0, 0)), box1 b4 4 (.bool false)] ++ lstA la lc ys)), [row 3 1 d.1 x.length d.2 (ints x)], (relA g2 ++ boxA F)] [0, 3, 1] 4 rfl (by decide) (by decide))
            · try simp only [decide_eq_true_eq, decide_eq_false_iff_not, Bool.not_eq_true', Bool.not_eq_false'] at c108
              refine WC.skip ?_
              refine WX.block_normal ?_
              refine WX.focus (ow' := own l (lr.ob .busy none) :: (([box1 b12 3 (.int .i64 ((nn + 1 : Nat) : Int)), box1 c11 3 (.int .i64 (i : Int))] ++ ([box1 b5 48 (.slice la ys.length lc), own b3 (.cells (opC kind parts stop two ra rm rc a1 m1 c1 a2 m2 c2).toArray 34 (0, 0)), box1 b4 4 (.bool false)] ++ lstA la lc ys)) ++ (row 3 1 d.1 x.length d.2 (ints x) :: (relA g2 ++ boxA F)))) (perm_cat [([box1 b12 3 (.int .i64 ((nn + 1 : Nat) : Int)), box1 c11 3 (.int .i64 (i : Int))] ++ ([box1 b5 48 (.slice la ys.length lc), own b3 (.cells (opC kind parts stop two ra rm rc a1 m1 c1 a2 m2 c2).toArray 34 (0, 0)), box1 b4 4 (.bool false)] ++ lstA la lc ys)), [row 3 1 d.1 x.length d.2 (ints x)], [own l (lr.ob .busy none)], (relA g2 ++ boxA F)] [2, 0, 1, 3] (by decide) rfl) (WX.roundEnd (fun w' hw => ⟨g2, nn + 1, lr.ob .ready none, fun _ => ⟨⟨ok2, le2, hes2, by omega⟩, rfl⟩, fun h => (by cases h), ?_⟩))
              exact Hw.Sat.turned (hw.pick [[own l (lr.ob .ready none)], ([box1 b12 3 (.int .i64 ((nn + 1 : Nat) : Int)), box1 c11 3 (.int .i64 (i : Int))] ++ ([box1 b5 48 (.slice la ys.length lc), own b3 (.cells (opC kind parts stop two ra rm rc a1 m1 c1 a2 m2 c2).toArray 34 (0, 0)), box1 b4 4 (.bool false)] ++ lstA la lc ys)), [row 3 1 d.1 x.length d.2 (ints x)], (relA g2 ++ boxA F)] [0, 3, 1] 4 rfl (by decide) (by decide))
          · try simp only [decide_eq_true_eq, decide_eq_false_iff_not, Bool.not_eq_true', Bool.not_eq_false'] at g103
            refine WL.skip (b := false) rfl rfl rfl rfl ?_
            refine WL.skip (b := false) rfl rfl rfl rfl ?_
            refine WL.skip (b := false) rfl rfl rfl rfl ?_
            refine WL.skip (b := false) rfl rfl rfl rfl ?_
            refine WL.val (OV.pickF rfl rfl) rfl ?_
            refine WL.nil ?_
            refine WX.next ?_
            refine WC.condF rfl ?_
            refine WC.skip ?_
            refine WX.block_normal ?_
            refine WX.focus (ow' := own l (lr.ob .busy none) :: (([box1 b12 3 (.int .i64 ((nn + 1 : Nat) : Int)), box1 c11 3 (.int .i64 (i : Int))] ++ ([box1 b5 48 (.slice la ys.length lc), own b3 (.cells (opC kind parts stop two ra rm rc a1 m1 c1 a2 m2 c2).toArray 34 (0, 0)), box1 b4 4 (.bool false)] ++ lstA la lc ys)) ++ (row 3 1 d.1 x.length d.2 (ints x) :: (relA g2 ++ boxA F)))) (perm_cat [([box1 b12 3 (.int .i64 ((nn + 1 : Nat) : Int)), box1 c11 3 (.int .i64 (i : Int))] ++ ([box1 b5 48 (.slice la ys.length lc), own b3 (.cells (opC kind parts stop two ra rm rc a1 m1 c1 a2 m2 c2).toArray 34 (0, 0)), box1 b4 4 (.bool false)] ++ lstA la lc ys)), [row 3 1 d.1 x.length d.2 (ints x)], [own l (lr.ob .busy none)], (relA g2 ++ boxA F)] [2, 0, 1, 3] (by decide) rfl) (WX.roundEnd (fun w' hw => ⟨g2, nn + 1, lr.ob .ready none, fun _ => ⟨⟨ok2, le2, hes2, by omega⟩, rfl⟩, fun h => (by cases h), ?_⟩))
            exact Hw.Sat.turned (hw.pick [[own l (lr.ob .ready none)], ([box1 b12 3 (.int .i64 ((nn + 1 : Nat) : Int)), box1 c11 3 (.int .i64 (i : Int))] ++ ([box1 b5 48 (.slice la ys.length lc), own b3 (.cells (opC kind parts stop two ra rm rc a1 m1 c1 a2 m2 c2).toArray 34 (0, 0)), box1 b4 4 (.bool false)] ++ lstA la lc ys)), [row 3 1 d.1 x.length d.2 (ints x)], (relA g2 ++ boxA F)] [0, 3, 1] 4 rfl (by decide) (by decide))
        · intro D g2 nn hJ
          obtain ⟨ok2, le2, hes2, hnn⟩ : RelOK g2 ∧ RelLe g1 g2 ∧ g2.es = g1.es ∧ nn = (ys.map Col.l).length := hJ
          rw [List.length_map] at hnn
          refine WX.focus (ow' := box1 b12 3 (.int .i64 ((nn : Nat) : Int)) :: box1 c11 3 (.int .i64 (i : Int)) :: box1 b5 48 (.slice la ys.length lc) :: own b3 (.cells (opC kind parts stop two ra rm rc a1 m1 c1 a2 m2 c2).toArray 34 (0, 0)) :: box1 b4 4 (.bool false) :: row 32 1 la ys.length lc (ys.map encC) :: (ys.flatMap colA ++ ((relA g2 ++ boxA F) ++ (refA q ++ mkA (D :: Ds))))) (perm_cat [[own D (.deferred (some []))], (relA g2 ++ boxA F), ([box1 b12 3 (.int .i64 ((nn : Nat) : Int)), box1 c11 3 (.int .i64 (i : Int))] ++ ([box1 b5 48 (.slice la ys.length lc), own b3 (.cells (opC kind parts stop two ra rm rc a1 m1 c1 a2 m2 c2).toArray 34 (0, 0)), box1 b4 4 (.bool false)] ++ lstA la lc ys)), refA q, mkA Ds] [2, 1, 3, 0, 4] (by decide) rfl) ?_
          refine WX.block_normal ?_
          refine WX.next ?_
          refine WC.seq ?_
          refine WC.region ?_
          refine WL.val (OV.load1 (v := .int .i64 ((nn : Nat) : Int)) rfl T.u3 rfl (fun _ hw => (cell_at (hw.it _ (.head _)) (o := 0) rfl).1)) rfl ?_
          refine WL.val (OV.load1 (v := .slice la ys.length lc) rfl T.u48 rfl (fun _ hw => (cell_at (hw.it _ (.tail _ (.tail _ (.head _)))) (o := 0) rfl).1)) rfl ?_
          first
          | (refine WL.val (OV.lenSlice rfl T.u48) rfl ?_)
          | (refine WL.val (OV.lenStr rfl T.u48) rfl ?_)
          refine WL.val (OV.neq rfl rfl) rfl ?_
          refine WL.val (OV.move rfl) rfl ?_
          refine WL.known (t := 113) (b := false) rfl (by simp; omega) ?_
          refine WL.skip (b := false) rfl rfl rfl rfl ?_
          refine WL.skip (b := false) rfl rfl rfl rfl ?_
          refine WL.skip (b := false) rfl rfl rfl rfl ?_
          refine WL.skipU rfl rfl rfl ?_
          refine WL.skipU rfl rfl rfl ?_
          refine WL.skipU rfl rfl rfl ?_
          refine WL.skipU rfl rfl rfl ?_
          refine WL.skip (b := false) rfl rfl rfl rfl ?_
          refine WL.val (OV.pickF rfl rfl) rfl ?_
          refine WL.nil ?_
          refine WX.next ?_
          refine WC.condF rfl ?_
          refine WC.skip ?_
          refine WX.block_normal ?_
          refine WX.next ?_
          refine WC.seq ?_
          refine WC.seq ?_
          refine WC.region ?_
          refine WL.val (OV.load1 (v := .int .i64 (i : Int)) rfl T.u3 rfl (fun _ hw => (cell_at (hw.it _ (.tail _ (.head _))) (o := 0) rfl).1)) rfl ?_
          refine WL.nil ?_
          refine WX.next ?_
          refine WC.region ?_
          refine WL.alloc T.zr3 rfl ?_
          intro b11
          refine WL.store1 (o := 0) rfl rfl rfl T.z3 Nat.zero_lt_one ?_
          refine WL.nil ?_
          refine WX.next ?_
          refine WC.region ?_
          refine WL.val (OV.load1 (v := .int .i64 (i : Int)) rfl T.u3 rfl (fun _ hw => (cell_at (hw.it _ (.head _)) (o := 0) rfl).1)) rfl ?_
          refine WL.val (OV.addN (j := 1) rfl rfl (by omega)) rfl ?_
          refine WL.store1 (o := 0) rfl rfl rfl T.z3 Nat.zero_lt_one ?_
          refine WL.nil ?_
          exact WX.roundM (i + 1, b11, g2, D :: Ds) rfl ⟨rfl, rfl, rfl, rfl, rfl, trivial⟩ (fun w' hw => ⟨⟨by show i + 1 ≤ 2; omega, ok2, le1.trans le2, hes2.trans hes1⟩, hw.pick [[box1 b11 3 (.int .i64 ((i + 1 : Nat) : Int))], [box1 b12 3 (.int .i64 ((nn : Nat) : Int)), box1 c11 3 (.int .i64 (i : Int))], ([box1 b5 48 (.slice la ys.length lc), own b3 (.cells (opC kind parts stop two ra rm rc a1 m1 c1 a2 m2 c2).toArray 34 (0, 0)), box1 b4 4 (.bool false)] ++ lstA la lc ys), (relA g2 ++ boxA F), refA q, mkA (D :: Ds)] [0, 3, 2, 4, 5] 6 rfl (by decide) (by decide)⟩) (by show 2 - (i + 1) < 2 - i; omega)
        · rintro D c k g2 nn hJ hk0 hkl
          obtain ⟨rfl, ⟨ok2, le2, hes2⟩, hi0, hstop, hnl⟩ : c = .exit 6 ∧ (RelOK g2 ∧ RelLe g1 g2 ∧ g2.es = g1.es) ∧ i = 0 ∧ ((nn : Nat) : Int) = stop ∧ nn ≤ ys.length := ⟨hJ.1, ⟨hJ.2.1, hJ.2.2.1, hJ.2.2.2.1⟩, hJ.2.2.2.2⟩
          refine WC.focus (ow' := box1 b12 3 (.int .i64 ((nn : Nat) : Int)) :: box1 c11 3 (.int .i64 (i : Int)) :: box1 b5 48 (.slice la ys.length lc) :: own b3 (.cells (opC kind parts stop two ra rm rc a1 m1 c1 a2 m2 c2).toArray 34 (0, 0)) :: box1 b4 4 (.bool false) :: row 32 1 la ys.length lc (ys.map encC) :: (ys.flatMap colA ++ ((relA g2 ++ boxA F) ++ (refA q ++ mkA (D :: Ds))))) (perm_cat [[own D (.deferred (some []))], (relA g2 ++ boxA F), ([box1 b12 3 (.int .i64 ((nn : Nat) : Int)), box1 c11 3 (.int .i64 (i : Int))] ++ ([box1 b5 48 (.slice la ys.length lc), own b3 (.cells (opC kind parts stop two ra rm rc a1 m1 c1 a2 m2 c2).toArray 34 (0, 0)), box1 b4 4 (.bool false)] ++ lstA la lc ys)), refA q, mkA Ds] [2, 1, 3, 0, 4] (by decide) rfl) ?_
          refine WC.exit ?_
          refine WX.block_hit ?_
          refine WX.next ?_
          refine WC.seq ?_
          refine WC.region ?_
          refine WL.val (OV.load1 (v := .int .i64 ((nn : Nat) : Int)) rfl T.u3 rfl (fun _ hw => (cell_at (hw.it _ (.head _)) (o := 0) rfl).1)) rfl ?_
          refine WL.val (OV.load1 (v := .slice la ys.length lc) rfl T.u48 rfl (fun _ hw => (cell_at (hw.it _ (.tail _ (.tail _ (.head _)))) (o := 0) rfl).1)) rfl ?_
          first
          | (refine WL.val (OV.lenSlice rfl T.u48) rfl ?_)
          | (refine WL.val (OV.lenStr rfl T.u48) rfl ?_)
          refine WL.val (OV.neq rfl rfl) rfl ?_
          refine WL.val (OV.move rfl) rfl ?_
          refine WL.split (t := 113) rfl (fun g113 => ?_) (fun g113 => ?_)
          · try simp only [decide_eq_true_eq, decide_eq_false_iff_not, Bool.not_eq_true', Bool.not_eq_false'] at g113
            refine WL.go (b := true) rfl rfl rfl ?_
            refine WL.val (OV.load1 (v := .int .i64 (i : Int)) rfl T.u3 rfl (fun _ hw => (cell_at (hw.it _ (.tail _ (.head _))) (o := 0) rfl).1)) rfl ?_
            refine WL.go (b := true) rfl rfl rfl ?_
            refine WL.val (OV.gtr rfl rfl) rfl ?_
            refine WL.go (b := true) rfl rfl rfl ?_
            refine WL.val (OV.move rfl) rfl ?_
            refine WL.known (t := 116) (b := false) rfl (by exact decide_eq_false (by omega)) ?_
            refine WL.go (b := false) rfl rfl rfl ?_
            refine WL.val (OV.load1 (v := .int .i64 ((nn : Nat) : Int)) rfl T.u3 rfl (fun _ hw => (cell_at (hw.it _ (.head _)) (o := 0) rfl).1)) rfl ?_
            refine WL.go (b := false) rfl rfl rfl ?_
            first
            | (refine WL.val (OV.fieldAddr0 (off := 2) rfl T.u34 rfl) rfl ?_)
            | (refine WL.val (OV.fieldAddr (off := 2) rfl T.u34 rfl) rfl ?_)
            refine WL.go (b := false) rfl rfl rfl ?_
            refine WL.val (OV.load1 (v := .int .i64 stop) rfl T.u3 rfl (fun _ hw => (cell_at (hw.it _ (.tail _ (.tail _ (.tail _ (.head _))))) (o := 2) rfl).1)) rfl ?_
            refine WL.go (b := false) rfl rfl rfl ?_
            refine WL.val (OV.neq rfl rfl) rfl ?_
            refine WL.go (b := true) rfl rfl rfl ?_
            refine WL.val (OV.pickF rfl rfl) rfl ?_
            refine WL.val (OV.pickT rfl rfl) rfl ?_
            refine WL.nil ?_
            refine WX.next ?_
            refine WC.condF (show _ = some (Value.bool false) from by exact congrArg (fun b => some (Value.bool b)) (show (!decide (((nn : Nat) : Int) = stop)) = false by simp [hstop])) ?_
            refine WC.skip ?_
            refine WX.block_normal ?_
            refine WX.next ?_
            refine WC.seq ?_
            refine WC.seq ?_
            refine WC.region ?_
            refine WL.val (OV.load1 (v := .int .i64 (i : Int)) rfl T.u3 rfl (fun _ hw => (cell_at (hw.it _ (.tail _ (.head _))) (o := 0) rfl).1)) rfl ?_
            refine WL.nil ?_
            refine WX.next ?_
            refine WC.region ?_
            refine WL.alloc T.zr3 rfl ?_
            intro b11
            refine WL.store1 (o := 0) rfl rfl rfl T.z3 Nat.zero_lt_one ?_
            refine WL.nil ?_
            refine WX.next ?_
            refine WC.region ?_
            refine WL.val (OV.load1 (v := .int .i64 (i : Int)) rfl T.u3 rfl (fun _ hw => (cell_at (hw.it _ (.head _)) (o := 0) rfl).1)) rfl ?_
            refine WL.val (OV.addN (j := 1) rfl rfl (by omega)) rfl ?_
            refine WL.store1 (o := 0) rfl rfl rfl T.z3 Nat.zero_lt_one ?_
            refine WL.nil ?_
            exact WX.roundM (i + 1, b11, g2, D :: Ds) rfl ⟨rfl, rfl, rfl, rfl, rfl, trivial⟩ (fun w' hw => ⟨⟨by show i + 1 ≤ 2; omega, ok2, le1.trans le2, hes2.trans hes1⟩, hw.pick [[box1 b11 3 (.int .i64 ((i + 1 : Nat) : Int))], [box1 b12 3 (.int .i64 ((nn : Nat) : Int)), box1 c11 3 (.int .i64 (i : Int))], ([box1 b5 48 (.slice la ys.length lc), own b3 (.cells (opC kind parts stop two ra rm rc a1 m1 c1 a2 m2 c2).toArray 34 (0, 0)), box1 b4 4 (.bool false)] ++ lstA la lc ys), (relA g2 ++ boxA F), refA q, mkA (D :: Ds)] [0, 3, 2, 4, 5] 6 rfl (by decide) (by decide)⟩) (by show 2 - (i + 1) < 2 - i; omega)
          · try simp only [decide_eq_true_eq, decide_eq_false_iff_not, Bool.not_eq_true', Bool.not_eq_false'] at g113
            refine WL.skip (b := false) rfl rfl rfl rfl ?_
            refine WL.skip (b := false) rfl rfl rfl rfl ?_
            refine WL.skip (b := false) rfl rfl rfl rfl ?_
            refine WL.skipU rfl rfl rfl ?_
            refine WL.skipU rfl rfl rfl ?_
            refine WL.skipU rfl rfl rfl ?_
            refine WL.skipU rfl rfl rfl ?_
            refine WL.skip (b := false) rfl rfl rfl rfl ?_
            refine WL.val (OV.pickF rfl rfl) rfl ?_
            refine WL.nil ?_
            refine WX.next ?_
            refine WC.condF rfl ?_
            refine WC.skip ?_
            refine WX.block_normal ?_
            refine WX.next ?_
            refine WC.seq ?_
            refine WC.seq ?_
            refine WC.region ?_
            refine WL.val (OV.load1 (v := .int .i64 (i : Int)) rfl T.u3 rfl (fun _ hw => (cell_at (hw.it _ (.tail _ (.head _))) (o := 0) rfl).1)) rfl ?_
            refine WL.nil ?_
            refine WX.next ?_
            refine WC.region ?_
            refine WL.alloc T.zr3 rfl ?_
            intro b11
            refine WL.store1 (o := 0) rfl rfl rfl T.z3 Nat.zero_lt_one ?_
            refine WL.nil ?_
            refine WX.next ?_
            refine WC.region ?_
            refine WL.val (OV.load1 (v := .int .i64 (i : Int)) rfl T.u3 rfl (fun _ hw => (cell_at (hw.it _ (.head _)) (o := 0) rfl).1)) rfl ?_
            refine WL.val (OV.addN (j := 1) rfl rfl (by omega)) rfl ?_
            refine WL.store1 (o := 0) rfl rfl rfl T.z3 Nat.zero_lt_one ?_
            refine WL.nil ?_
            exact WX.roundM (i + 1, b11, g2, D :: Ds) rfl ⟨rfl, rfl, rfl, rfl, rfl, trivial⟩ (fun w' hw => ⟨⟨by show i + 1 ≤ 2; omega, ok2, le1.trans le2, hes2.trans hes1⟩, hw.pick [[box1 b11 3 (.int .i64 ((i + 1 : Nat) : Int))], [box1 b12 3 (.int .i64 ((nn : Nat) : Int)), box1 c11 3 (.int .i64 (i : Int))], ([box1 b5 48 (.slice la ys.length lc), own b3 (.cells (opC kind parts stop two ra rm rc a1 m1 c1 a2 m2 c2).toArray 34 (0, 0)), box1 b4 4 (.bool false)] ++ lstA la lc ys), (relA g2 ++ boxA F), refA q, mkA (D :: Ds)] [0, 3, 2, 4, 5] 6 rfl (by decide) (by decide)⟩) (by show 2 - (i + 1) < 2 - i; omega)
      · try simp only [decide_eq_true_eq, decide_eq_false_iff_not, Bool.not_eq_true', Bool.not_eq_false'] at c81
        refine WC.exit ?_
        refine WX.then_exit ?_
        refine WX.then_exit ?_
        refine WX.block_hit ?_
        refine WX.next ?_
        refine WC.seq ?_
        refine WC.region ?_
        refine WL.focus (ow' := box1 b4 4 (.bool false) :: box1 c11 3 (.int .i64 (i : Int)) :: ((relA g1 ++ boxA F) ++ (([box1 b5 48 (.slice la ys.length lc), own b3 (.cells (opC kind parts stop two ra rm rc a1 m1 c1 a2 m2 c2).toArray 34 (0, 0))] ++ lstA la lc ys) ++ (refA q ++ mkA Ds)))) (perm_cat [[box1 c11 3 (.int .i64 (i : Int))], (relA g1 ++ boxA F), [box1 b5 48 (.slice la ys.length lc), own b3 (.cells (opC kind parts stop two ra rm rc a1 m1 c1 a2 m2 c2).toArray 34 (0, 0))], [box1 b4 4 (.bool false)], lstA la lc ys, refA q, mkA Ds] [3, 0, 1, 2, 4, 5, 6] (by decide) rfl) (WL.store1 (o := 0) rfl rfl rfl T.z4 Nat.zero_lt_one ?_)
        refine WL.nil ?_
        refine WX.next ?_
        refine WC.ret ?_
        refine WX.leave rfl (WR.focus (ow' := mkA Ds ++ (box1 b4 4 (.bool true) :: box1 c11 3 (.int .i64 (i : Int)) :: ((relA g1 ++ boxA F) ++ (([box1 b5 48 (.slice la ys.length lc), own b3 (.cells (opC kind parts stop two ra rm rc a1 m1 c1 a2 m2 c2).toArray 34 (0, 0))] ++ lstA la lc ys) ++ refA q)))) (perm_cat [[box1 b4 4 (.bool true), box1 c11 3 (.int .i64 (i : Int))], (relA g1 ++ boxA F), [box1 b5 48 (.slice la ys.length lc), own b3 (.cells (opC kind parts stop two ra rm rc a1 m1 c1 a2 m2 c2).toArray 34 (0, 0))] ++ lstA la lc ys, refA q, mkA Ds] [4, 0, 1, 2, 3] (by decide) rfl) (WR.marks Ds (WR.retC1 (v := .bool true) rfl rfl T.u4 rfl (fun w' hw => (cell_at (hw.it _ (.head _)) rfl).1) (fun w' hw => ⟨rfl, g1, ⟨ok1, t.qok, by rw [show g1.width = g.width from le1.width, t.wd], by rw [rp, hes1]; exact t.same⟩, (colG_le g F.col).trans le1, hes1, ?_⟩))))
        have h2 := (hw.pick [[box1 b4 4 (.bool true)], [box1 c11 3 (.int .i64 (i : Int))], (relA g1 ++ boxA F), [box1 b5 48 (.slice la ys.length lc), own b3 (.cells (opC kind parts stop two ra rm rc a1 m1 c1 a2 m2 c2).toArray 34 (0, 0))] ++ lstA la lc ys, refA q] [2, 4] 5 rfl (by decide) (by decide)).perm (List.Perm.of_eq (List.append_assoc _ _ _).symm)
        exact Hw.Sat.turned (h2.pick [relA g1, boxA F, refA q] [0, 2] 3 rfl (by decide) (by decide))

end Go.Proofs.YtijplknkpkmblaaGreatDoor
