/- Contracts of functions of the program: what each returns and leaves in memory. Printed by gen.py and walk.py. -/
import Derived.Test.YtijplknkpkmblaaGreatDoorL6
namespace Go.Proofs.YtijplknkpkmblaaGreatDoor
open Go Go.Hw
set_option linter.unusedSimpArgs false
set_option linter.unusedVariables false
/-! ### Rows -/
theorem RI.nil (w : World) : RI w none 0 [] := ⟨rfl, fun _ => rfl, fun b hb => by cases hb⟩
theorem i64s_nil : i64s [] := fun n hn => by cases hn
def encC (c : Col) : Value := .slice c.a c.l.length c.c
abbrev lstA (a : Option Addr) (c : Nat) (ys : List Col) : List Hw.Item := row 32 1 a ys.length c (ys.map encC) :: ys.flatMap colA
def CCr (b : Nat) (y : Option Addr × Nat × List Col) : List Hw.Item := box1 b 48 (.slice y.1 y.2.2.length y.2.1) :: lstA y.1 y.2.1 y.2.2
theorem selR_len (L : List (List Int × Nat)) (parts : Int) (cols key : List Int) : (selR L parts cols key).length ≤ L.length := by
  rw [selR, (sortR_perm _).length_eq, List.length_map]
  exact List.length_filter_le _ _
theorem encC_one (ys : List Col) : ∀ u ∈ ys.map encC, u.oneCell' = true := by
  intro u hu
  obtain ⟨c, _, rfl⟩ := List.mem_map.1 hu
  rfl
theorem flat_snoc (ys : List Col) (c : Col) : (ys ++ [c]).flatMap colA = ys.flatMap colA ++ [row 3 1 c.a c.l.length c.c (ints c.l)] := by simp [colA]
theorem rp_len {g : RelG} : (rp g).length = g.es.length := by simp [rp]

set_option maxRecDepth 10000 in
theorem rows_calls (g : RelG) (ok : RelOK g) (parts : Int) (w : World) (hA : Holds (relA g) w) :
  Calls Tryz.prog 17 #[ptr g.r, .int .i64 parts] w fun e w' => ∃ g' la lc ys, e = .returned (.slice la ys.length lc) ∧ ys.map Col.l = selR (rp g) parts [] [] ∧ RelOK g' ∧ RelLe g g' ∧ g'.es = g.es ∧ Turns (relA g) (relA g' ++ lstA la lc ys) w w' := by
  refine enterA hA (args := [ptr g.r, .int .i64 parts]) Tryz.func17 rfl Tryz.ntmps17 rfl rfl ?_
  refine WC.seq ?_
  refine WC.region ?_
  refine WL.val (OV.assign rfl) rfl ?_
  refine WL.nil ?_
  refine WX.next ?_
  refine WC.seq ?_
  refine WC.region ?_
  refine WL.alloc T.zr48 rfl ?_
  intro b5
  refine WL.nil ?_
  refine WX.next ?_
  refine WC.seq ?_
  refine WC.seq ?_
  refine WC.region ?_
  refine WL.val (OV.move rfl) rfl ?_
  refine WL.val (OV.move rfl) rfl ?_
  refine WL.focus (ow' := relA g ++ [box1 b5 48 (.slice none 0 0)]) (List.perm_append_comm (l₂ := [_])) (WL.callTA (ι := FB) (vv := fun F => F.fn) (pp := fun F => F.r = g.r ∧ F.parts = parts ∧ QR g.width [] [] F.ls F.ks F.b ∧ RelOK (colG g F.col)) (relA g) (AA := fun F => relA (colG g F.col) ++ boxA F) rfl (by kernel_rfl) rfl rfl (fun w' hw' hH => (find_calls g ok parts [] [] none 0 0 none 0 0 i64s_nil i64s_nil (by omega) (by omega) w' (RI.nil _) (RI.nil _) (fun b hb => by cases hb) (fun b hb => by cases hb) hH).mono (fun en w'' ⟨F, h1, h2, h3, h4, h5, h6⟩ => ⟨F, h1, ⟨h2, h3, h4, h5⟩, h6⟩)) ?_)
  rintro F ⟨hFr, hFp, hq, ok1⟩
  refine WL.nil ?_
  refine WX.next ?_
  refine WC.block ?_
  refine WC.weak (S' := Sat w (DD (relA g)) (fun b => b < w.heap.size ∧ ¬ DD (relA g) b) w ((relA (colG g F.col) ++ boxA F) ++ (CCr b5 (none, 0, []) ++ []))) (fun w' hw => (hw.rowNil 32 1).perm (perm_cat [[row 32 1 none 0 0 []], (relA (colG g F.col) ++ boxA F), [box1 b5 48 (.slice none 0 0)]] [1, 2, 0] (by decide) rfl)) ?_
  refine WC.rangeFunc (RA := fun q => relA q ++ boxA F) (CC := CCr b5) (EI := EIr) (arg := argr) (xs := (selR (rp g) F.parts [] [])) (g0 := (colG g F.col)) (y0 := (none, 0, [])) (R01 := fun g1 => RelOK g1 ∧ RelLe (colG g F.col) g1 ∧ g1.es = ((colG g F.col)).es) (Mono := fun g1 => RelLe (colG g F.col) g1) (gf := 29) (caps := F.caps) (ow := []) rfl rfl (by kernel_rfl) rfl (fun w' _ => find1_iter F (colG g F.col) ok1 [] [] hq hFr (List.mem_append_right _ (.head _)) w')
    (fun k q y => RelOK q ∧ RelLe (colG g F.col) q ∧ q.es = g.es ∧ y.2.2.map Col.l = (selR (rp g) F.parts [] []).take k) (fun _ _ _ _ => False) (fun q hq => ⟨hq.1, hq.2.1, hq.2.2, by simp⟩) (fun k q y h => h.2.1) ?_ ?_ ?_
  · rintro l lr k q ⟨la, lc, ys⟩ d W a hxs hJ hS
    obtain ⟨okq, leq, hqe, hys⟩ : RelOK q ∧ RelLe (colG g F.col) q ∧ q.es = g.es ∧ ys.map Col.l = (selR (rp g) F.parts [] []).take k := hJ
    have hyl : ys.length ≤ 1099511627776 := by
      have h1 := congrArg List.length hys
      rw [List.length_map, List.length_take] at h1
      have h2 := selR_len (rp g) F.parts [] []
      rw [rp_len] at h2
      have := ok.el
      omega
    refine WC.region ?_
    refine WL.val (OV.assign rfl) rfl ?_
    refine WL.nil ?_
    refine WX.begin ?_
    refine WC.focus (ow' := box1 b5 48 (.slice la ys.length lc) :: row 32 1 la ys.length lc (ys.map encC) :: row 3 1 d.1 a.length d.2 (ints a) :: own l (lr.ob .busy none) :: (ys.flatMap colA ++ (relA q ++ boxA F))) (perm_cat [[own l (lr.ob .busy none)], [row 3 1 d.1 a.length d.2 (ints a)], (relA q ++ boxA F), [box1 b5 48 (.slice la ys.length lc), row 32 1 la ys.length lc (ys.map encC)], ys.flatMap colA] [3, 1, 0, 4, 2] (by decide) rfl) ?_
    refine WC.block ?_
    refine WC.region ?_
    first
    | (refine WL.val (OV.load1 rfl T.u48 rfl (fun _ hw => cell_own hw (.head _) rfl)) rfl ?_)
    | (refine WL.val (OV.load1 rfl T.u48 rfl (fun _ hw => cell_own hw (.tail _ (.head _)) rfl)) rfl ?_)
    | (refine WL.val (OV.load1 rfl T.u48 rfl (fun _ hw => cell_own hw (.tail _ (.tail _ (.head _))) rfl)) rfl ?_)
    | (refine WL.val (OV.load1 rfl T.u48 rfl (fun _ hw => cell_own hw (.tail _ (.tail _ (.tail _ (.head _)))) rfl)) rfl ?_)
    refine WL.val (OV.move rfl) rfl ?_
    refine WL.buildSlice1 T.u48 T.z32 T.zr32 rfl rfl rfl ?_
    intro b13
    refine WL.focus perm2 (WL.append (news := [encC ⟨d.1, d.2, a⟩]) rfl rfl T.apR (fun _ _ => own_src (.tail _ (.head _)) rfl) (encC_one [⟨d.1, d.2, a⟩]) ⟨by omega, by unfold maxLen; omega⟩ rfl ?_)
    intro a14 c14
    refine WL.focus perm2 (WL.store1 (o := 0) rfl rfl rfl T.z48 Nat.zero_lt_one ?_)
    refine WL.nil ?_
    refine WX.block_normal ?_
    refine WX.focus (ow' := own l (lr.ob .busy none) :: ((relA q ++ boxA F) ++ (box1 b5 48 (.slice a14 (ys.length + 1) c14) :: row 32 1 a14 (ys.length + 1) c14 (ys.map encC ++ [encC ⟨d.1, d.2, a⟩]) :: (ys.flatMap colA ++ [row 3 1 d.1 a.length d.2 (ints a), own b13 (.cells [encC ⟨d.1, d.2, a⟩].toArray 32 (0, 0))])))) (perm_cat [[box1 b5 48 (.slice a14 (ys.length + 1) c14), row 32 1 a14 (ys.length + 1) c14 (ys.map encC ++ [encC ⟨d.1, d.2, a⟩])], [own b13 (.cells [encC ⟨d.1, d.2, a⟩].toArray 32 (0, 0))], [row 3 1 d.1 a.length d.2 (ints a)], [own l (lr.ob .busy none)], ys.flatMap colA, (relA q ++ boxA F)] [3, 5, 0, 4, 2, 1] (by decide) rfl) (WX.roundEnd (fun w' hw => ⟨q, (a14, c14, ys ++ [⟨d.1, d.2, a⟩]), lr.ob .ready none, fun _ => ⟨⟨okq, leq, hqe, ?_⟩, rfl⟩, fun h => (by cases h), ?_⟩))
    · show (ys ++ [_]).map Col.l = (selR (rp g) F.parts [] []).take (k + 1)
      rw [List.map_append, hys, List.take_add_one, hxs]
      rfl
    · have e1 : CCr b5 (a14, c14, ys ++ [⟨d.1, d.2, a⟩]) = box1 b5 48 (.slice a14 (ys.length + 1) c14) :: row 32 1 a14 (ys.length + 1) c14 (ys.map encC ++ [encC ⟨d.1, d.2, a⟩]) :: (ys.flatMap colA ++ [row 3 1 d.1 a.length d.2 (ints a)]) := by
        unfold CCr lstA
        rw [flat_snoc, List.map_append, List.length_append]
        rfl
      show Turns _ (own l (lr.ob .ready none) :: ((relA q ++ boxA F) ++ CCr b5 (a14, c14, ys ++ [⟨d.1, d.2, a⟩]))) _ _
      rw [e1]
      exact Hw.Sat.turnedL (B := [own b13 (.cells [encC ⟨d.1, d.2, a⟩].toArray 32 (0, 0))]) (hw.perm (List.Perm.of_eq (by simp)))
  · rintro D g2 ⟨la, lc, ys⟩ hJ
    obtain ⟨ok2, le2, he2, hys⟩ : RelOK g2 ∧ RelLe (colG g F.col) g2 ∧ g2.es = g.es ∧ ys.map Col.l = (selR (rp g) F.parts [] []).take (selR (rp g) F.parts [] []).length := hJ
    refine WX.block_normal ?_
    refine WX.next ?_
    refine WC.seq ?_
    refine WC.region ?_
    refine WL.val (OV.load1 (v := .slice la ys.length lc) rfl T.u48 rfl (fun _ hw => cell_own hw (.tail _ (List.mem_append_right _ (.head _))) rfl)) rfl ?_
    refine WL.val (OV.assign rfl) rfl ?_
    refine WL.nil ?_
    refine WX.next ?_
    refine WC.ret ?_
    refine WX.leave rfl (WR.mark (WR.ret1 rfl rfl (fun w' hw => ⟨g2, la, lc, ys, rfl, ?_, ok2, (colG_le g F.col).trans le2, he2, ?_⟩)))
    · rw [hys, List.take_length, hFp]
    · have h1 := hw.drop
      exact Hw.Sat.turnedL (B := boxA F ++ [box1 b5 48 (.slice la ys.length lc)]) (h1.perm ((List.Perm.of_eq (by rw [List.append_assoc]; rfl)).trans ((perm_cat [relA g2, boxA F, [box1 b5 48 (.slice la ys.length lc)], lstA la lc ys] [0, 3, 1, 2] (by decide) rfl).trans (List.Perm.of_eq (by simp [cat, CCr])))))
  · intro D c k g2 y2 hJ
    exact hJ.elim

end Go.Proofs.YtijplknkpkmblaaGreatDoor
