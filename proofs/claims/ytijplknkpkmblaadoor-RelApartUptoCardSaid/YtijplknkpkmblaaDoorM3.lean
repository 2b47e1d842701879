/- Contracts of functions of the program: what each returns and leaves in memory. Printed by gen.py and walk.py. -/
import Derived.Test.YtijplknkpkmblaaDoorM2
namespace Go.Proofs.YtijplknkpkmblaaDoor
open Go Go.Hw
set_option linter.unusedSimpArgs false
set_option linter.unusedVariables false
def CCs (b16 b15 b8 b9 b10 : Nat) (vc vk : Value) (la : Option Addr) (lc : Nat) (ys : List Col) (nn : Nat) : List Hw.Item :=
  box1 b16 3 (.int .i64 (nn : Int)) :: box1 b15 29 (.slice la ys.length lc) :: box1 b8 23 vc :: box1 b9 23 vk :: box1 b10 4 (.bool false) :: lstA la lc ys

set_option maxRecDepth 10000 in
theorem sifts_calls (n0 : Int) (bs : List (List (List Int))) (a : Option Addr) (n c : Nat) (parts : Int) (cols key : List Int) (a1 : Option Addr) (m1 c1 : Nat) (a2 : Option Addr) (m2 c2 : Nat) (hm1 : m1 ≤ 1099511627776) (hm2 : m2 ≤ 1099511627776) (hc : i64s cols) (hk : i64s key) (w : World) (hr : BLi w a n bs) (hr1 : RI w a1 m1 cols) (hr2 : RI w a2 m2 key) :
  Calls Tryd.prog 3 #[.int .i64 n0, .slice a n c, .int .i64 parts, .slice a1 m1 c1, .slice a2 m2 c2] w fun e w' => e = .returned (.bool true) ∧ Fr0 w w' := by
  refine enterS (args := [.int .i64 n0, .slice a n c, .int .i64 parts, .slice a1 m1 c1, .slice a2 m2 c2]) (fun _ => False) Tryd.func3 rfl Tryd.ntmps3 rfl rfl ?_
  refine WC.seq ?_
  refine WC.region ?_
  refine WL.box rfl rfl rfl ?_
  intro bb8
  refine WL.box rfl rfl rfl ?_
  intro b9
  refine WL.alloc T.zr4 rfl ?_
  intro b10
  refine WL.nil ?_
  refine WX.next ?_
  refine WC.seq ?_
  refine WC.region ?_
  refine WL.val (OV.move rfl) rfl ?_
  refine WL.call0 (v := .int .i64 (smallN n0 : Int)) (by kernel_rfl) rfl rfl (fun w' hw' => small_calls n0 w') ?_
  obtain ⟨wd, hwd⟩ : ∃ q, q = smallN n0 := ⟨_, rfl⟩
  have hw5 : wd ≤ 5 := by rw [hwd]; exact smallN_le n0
  rw [← hwd]
  refine WL.val (OV.assign rfl) rfl ?_
  refine WL.nil ?_
  refine WX.next ?_
  refine WC.seq ?_
  refine WC.region ?_
  refine WL.val (OV.move rfl) rfl ?_
  refine WL.val (OV.move rfl) rfl ?_
  refine WL.callTA (ι := RelG) (vv := fun g => .tuple #[ptr g.r, .bool true]) (pp := fun g => RelOK g ∧ g.width = wd ∧ rp g = growTo wd bs n ∧ g.es.length ≤ 1048576) [] (AA := fun g => relA g) rfl (by kernel_rfl) rfl rfl (fun w' hw' hH => (grown_calls wd hw5 bs a n c w' (hr.keeps hw'.keeps)).mono (fun en w'' ⟨g, h1, h2, h3, h4, h5, h6⟩ => ⟨g, h1, ⟨h2, h3, h4, h5⟩, h6⟩)) ?_
  rintro g0 hpp
  obtain ⟨g0ok, g0w, g0p, g0l⟩ : RelOK g0 ∧ g0.width = wd ∧ rp g0 = growTo wd bs n ∧ g0.es.length ≤ 1048576 := hpp
  refine WL.val (OV.move rfl) rfl ?_
  refine WL.val (OV.extract rfl rfl) rfl ?_
  refine WL.val (OV.extract rfl rfl) rfl ?_
  refine WL.val (OV.assign rfl) rfl ?_
  refine WL.val (OV.assign rfl) rfl ?_
  refine WL.nil ?_
  refine WX.next ?_
  refine WC.seq ?_
  refine WC.seq ?_
  refine WC.region ?_
  refine WL.val (OV.move rfl) rfl ?_
  refine WL.val (OV.not rfl) rfl ?_
  refine WL.val (OV.move rfl) rfl ?_
  refine WL.known (t := 29) (b := false) rfl (by rfl) ?_
  refine WL.go (b := false) rfl rfl rfl ?_
  refine WL.call0 (v := .bool true) (by kernel_rfl) rfl rfl (fun w' hw' => head_calls w') ?_
  refine WL.go (b := false) rfl rfl rfl ?_
  refine WL.val (OV.not rfl) rfl ?_
  refine WL.val (OV.pickF rfl rfl) rfl ?_
  refine WL.nil ?_
  refine WX.next ?_
  refine WC.condF rfl ?_
  refine WC.skip ?_
  refine WX.next ?_
  refine WC.seq ?_
  refine WC.seq ?_
  refine WC.region ?_
  refine WL.val (OV.assign rfl) rfl ?_
  refine WL.nil ?_
  refine WX.next ?_
  refine WC.block ?_
  refine WC.loopM (ι := Nat × RelG × List Nat) (fun x => mks x.2.2) (fun x => [(2, .int .i64 parts), (8, ptr bb8), (9, ptr b9), (10, ptr b10), (11, .int .i64 (wd : Int)), (12, ptr x.2.1.r), (14, .int .i64 (x.1 : Int))])
      (fun x w' => (x.1 ≤ 3 ∧ RelOK x.2.1 ∧ x.2.1.width = wd ∧ x.2.1.es.length ≤ 1048576 + x.1) ∧ Sat w (fun _ => False) (fun b => b < w.heap.size) w (relA x.2.1 ++ ([box1 bb8 23 (.slice a1 m1 c1), box1 b9 23 (.slice a2 m2 c2), box1 b10 4 (.bool false)] ++ mkA x.2.2)) w')
      (fun x => 3 - x.1) (0, g0, []) rfl ⟨rfl, rfl, rfl, rfl, rfl, rfl, rfl, trivial⟩ (fun w' hw => ⟨⟨by omega, g0ok, g0w, by omega⟩, hw.perm (perm_cat [relA g0, [box1 b10 4 (.bool false)], [box1 b9 23 (.slice a2 m2 c2)], [box1 bb8 23 (.slice a1 m1 c1)]] [0, 3, 2, 1] (by decide) rfl)⟩) ?_
  rintro ⟨t, g, Ds⟩
  refine WC.pure (fun hi => ?_)
  obtain ⟨hi, gok, hgw, hel⟩ : t ≤ 3 ∧ RelOK g ∧ g.width = wd ∧ g.es.length ≤ 1048576 + t := hi
  have hgwl := gok.wl
  have hgel := gok.el
  refine WC.seq ?_
  refine WC.seq ?_
  refine WC.region ?_
  refine WL.val (OV.move rfl) rfl ?_
  refine WL.val (OV.lss rfl rfl) rfl ?_
  refine WL.nil ?_
  refine WX.next ?_
  refine WC.cond rfl (fun c34 => ?_) (fun c34 => ?_)
  · try simp only [decide_eq_true_eq, decide_eq_false_iff_not, Bool.not_eq_true', Bool.not_eq_false'] at c34
    refine WC.skip ?_
    refine WX.next ?_
    refine WC.seq ?_
    refine WC.block ?_
    refine WC.seq ?_
    refine WC.region ?_
    refine WL.val (OV.move rfl) rfl ?_
    refine WL.val (OV.move rfl) rfl ?_
    refine WL.callTA (ι := RelG × Option Addr × Nat × List Col) (vs := [ptr g.r, .int .i64 parts]) (vv := fun q => .slice q.2.1 q.2.2.2.length q.2.2.1) (pp := fun q => q.2.2.2.map Col.l = selR (rp g) parts [] [] ∧ RelOK q.1 ∧ RelLe g q.1 ∧ q.1.es = g.es) (relA g) (AA := fun q => relA q.1 ++ lstA q.2.1 q.2.2.1 q.2.2.2) rfl (by kernel_rfl) (by rfl) rfl (fun w' hw' hH => (rows_calls g gok parts w' hH).mono (fun en w'' ⟨g', la, lc, ys, h1, h2, h3, h4, h5, h6⟩ => ⟨(g', la, lc, ys), h1, ⟨h2, h3, h4, h5⟩, h6⟩)) ?_
    rintro ⟨g1, la, lc, ys⟩ hpp
    obtain ⟨hys, g1ok, g1le, g1es⟩ : ys.map Col.l = selR (rp g) parts [] [] ∧ RelOK g1 ∧ RelLe g g1 ∧ g1.es = g.es := hpp
    have hysn : ys.length ≤ g.es.length := sel_all_len hys
    rw [List.append_assoc]
    refine WL.alloc T.zr29 rfl ?_
    intro b15
    first
    | (refine WL.store1 rfl rfl rfl T.z29 (by first | decide | (simp; omega)) ?_)
    | (refine WL.focus perm1 (WL.store1 rfl rfl rfl T.z29 (by first | decide | (simp; omega)) ?_))
    | (refine WL.focus perm2 (WL.store1 rfl rfl rfl T.z29 (by first | decide | (simp; omega)) ?_))
    | (refine WL.focus perm3 (WL.store1 rfl rfl rfl T.z29 (by first | decide | (simp; omega)) ?_))
    | (refine WL.focus perm4 (WL.store1 rfl rfl rfl T.z29 (by first | decide | (simp; omega)) ?_))
    refine WL.nil ?_
    refine WX.next ?_
    refine WC.seq ?_
    refine WC.region ?_
    refine WL.alloc T.zr3 rfl ?_
    intro b16
    refine WL.store1 (o := 0) rfl rfl rfl T.z3 Nat.zero_lt_one ?_
    refine WL.nil ?_
    refine WX.next ?_
    refine WC.seq ?_
    refine WC.focus (ow' := relA g1 ++ ((CCs b16 b15 bb8 b9 b10 (.slice a1 m1 c1) (.slice a2 m2 c2) la lc ys 0) ++ mkA Ds)) (perm_cat [[box1 b16 3 (.int .i64 0)], [box1 b15 29 (.slice la ys.length lc)], relA g1, lstA la lc ys, [box1 bb8 23 (.slice a1 m1 c1), box1 b9 23 (.slice a2 m2 c2), box1 b10 4 (.bool false)], mkA Ds] [2, 0, 1, 4, 3, 5] (by decide) rfl) ?_
    refine WC.region ?_
    refine WL.val (OV.move rfl) rfl ?_
    refine WL.val (OV.move rfl) rfl ?_
    refine WL.val (OV.load1 (v := .slice a1 m1 c1) rfl T.u23 rfl (fun _ hw => cell_own hw (List.mem_append_right _ (.tail _ (.tail _ (.head _)))) rfl)) rfl ?_
    refine WL.val (OV.load1 (v := .slice a2 m2 c2) rfl T.u23 rfl (fun _ hw => cell_own hw (List.mem_append_right _ (.tail _ (.tail _ (.tail _ (.head _))))) rfl)) rfl ?_
    refine WL.callTA (ι := FB) (vs := [ptr g1.r, .int .i64 parts, .slice a1 m1 c1, .slice a2 m2 c2]) (vv := fun F => F.fn) (pp := fun F => F.r = g1.r ∧ F.parts = parts ∧ QR g1.width cols key F.ls F.ks F.b ∧ RelOK (colG g1 F.col)) (relA g1) (AA := fun F => relA (colG g1 F.col) ++ boxA F) rfl (by kernel_rfl) (by rw [g1le.r]; rfl) rfl (fun w' hw' hH => (find_calls g1 g1ok parts cols key a1 m1 c1 a2 m2 c2 hc hk hm1 hm2 w' (hr1.keeps hw'.keeps) (hr2.keeps hw'.keeps) (fun b hb hm => Sat.sepI hw' (hr1.lt hb hm)) (fun b hb hm => Sat.sepI hw' (hr2.lt hb hm)) hH).mono (fun en w'' ⟨F, h1, h2, h3, h4, h5, h6⟩ => ⟨F, h1, ⟨h2, h3, h4, h5⟩, h6⟩)) ?_
    rintro F hpp
    obtain ⟨hFr, hFp, hFq, g2ok⟩ : F.r = g1.r ∧ F.parts = parts ∧ QR g1.width cols key F.ls F.ks F.b ∧ RelOK (colG g1 F.col) := hpp
    obtain ⟨FL, hFL⟩ : ∃ FL, FL = selR (rp (colG g1 F.col)) F.parts cols key := ⟨_, rfl⟩
    have hF : FL = (ys.map Col.l).filter (fun r => decide (fitsL r cols key)) := by
      rw [hFL, sel_filter, hFp, hys]
      show (selR (rp g1) parts [] []).filter _ = _
      rw [show rp g1 = rp g from by unfold rp; rw [g1es]]
    have hAL : ∀ r ∈ (ys.map Col.l), r.length = g.width ∧ i64s r := by rw [hys]; exact sel_lens gok
    refine WL.val (OV.assign rfl) rfl ?_
    refine WL.nil ?_
    refine WX.next ?_
    refine WC.seq ?_
    refine WC.seq ?_
    refine WC.region ?_
    refine WL.val (OV.move rfl) rfl ?_
    refine WL.val (OV.eqlFN T.u32 rfl rfl) rfl ?_
    refine WL.nil ?_
    refine WX.next ?_
    refine WC.condF rfl ?_
    refine WC.skip ?_
    refine WX.next ?_
    refine WC.seq ?_
    refine WC.seq ?_
    refine WC.region ?_
    refine WL.val (OV.move rfl) rfl ?_
    refine WL.nil ?_
    refine WX.next ?_
    refine WC.block ?_
    refine WC.rangeFunc (RA := fun q => relA q ++ boxA F) (CC := fun nn : Nat => (CCs b16 b15 bb8 b9 b10 (.slice a1 m1 c1) (.slice a2 m2 c2) la lc ys nn)) (EI := EIr) (arg := argr) (xs := FL) (g0 := colG g1 F.col) (y0 := 0) (R01 := fun q => RelOK q ∧ RelLe (colG g1 F.col) q ∧ q.es = (colG g1 F.col).es) (Mono := fun q => RelLe (colG g1 F.col) q) (gf := 30) (caps := F.caps) (ow := mkA Ds) rfl rfl (by kernel_rfl) rfl (fun w' _ => by rw [hFL]; exact find1_iter F (colG g1 F.col) g2ok cols key hFq hFr (List.mem_append_right _ (.head _)) w')
      (fun k q nn => RelOK q ∧ RelLe (colG g1 F.col) q ∧ q.es = (colG g1 F.col).es ∧ Gone (ys.map Col.l) FL (fun r => decide (fitsL r cols key)) k nn) (fun _ _ _ _ => False) (fun q hq => ⟨hq.1, hq.2.1, hq.2.2, Gone.start _ _ _⟩) (fun k q y h => h.2.1) ?_ ?_ ?_
    · rintro l lr k q nn d W x hxs hJ hS
      obtain ⟨okq, leq, hqe, hgone0⟩ : RelOK q ∧ RelLe (colG g1 F.col) q ∧ q.es = (colG g1 F.col).es ∧ Gone (ys.map Col.l) FL (fun r => decide (fitsL r cols key)) k nn := hJ
      have hkl : k < FL.length := (List.getElem?_eq_some_iff.1 hxs).1
      have hS' : Sat w (fun _ => False) (fun b => b < w.heap.size) w ((own l (lr.ob .ready none) :: (EIr x d ++ ((relA q ++ boxA F) ++ (CCs b16 b15 bb8 b9 b10 (.slice a1 m1 c1) (.slice a2 m2 c2) la lc ys nn)))) ++ mkA Ds) W := hS.perm (List.Perm.of_eq (by simp))
      have hla := lst_addr (lc := lc) hS (.tail _ (List.mem_append_right _ (List.mem_append_right _ (List.mem_append_left _ (.tail _ (.tail _ (.tail _ (.tail _ (.tail _ (.head _))))))))))
      refine WC.region ?_
      refine WL.val (OV.assign rfl) rfl ?_
      refine WL.nil ?_
      refine WX.begin ?_
      refine WC.focus (ow' := (CCs b16 b15 bb8 b9 b10 (.slice a1 m1 c1) (.slice a2 m2 c2) la lc ys nn) ++ (row 3 1 d.1 x.length d.2 (ints x) :: own l (lr.ob .busy none) :: (relA q ++ boxA F))) (perm_cat [[own l (lr.ob .busy none)], [row 3 1 d.1 x.length d.2 (ints x)], (relA q ++ boxA F), (CCs b16 b15 bb8 b9 b10 (.slice a1 m1 c1) (.slice a2 m2 c2) la lc ys nn)] [3, 1, 0, 2] (by decide) rfl) ?_
      refine WC.block ?_
      refine WC.seq ?_
      refine WC.block ?_
      refine WC.loop1 (fun (m : Nat) => [(8, ptr bb8), (9, ptr b9), (10, ptr b10), (15, ptr b15), (16, ptr b16), (18, argr x d)])
          (fun m w' => Gone (ys.map Col.l) FL (fun r => decide (fitsL r cols key)) k m ∧ SatR W (own l (lr.ob .ready none) :: (EIr x d ++ ((relA q ++ boxA F) ++ (CCs b16 b15 bb8 b9 b10 (.slice a1 m1 c1) (.slice a2 m2 c2) la lc ys nn)))) ((CCs b16 b15 bb8 b9 b10 (.slice a1 m1 c1) (.slice a2 m2 c2) la lc ys m) ++ (row 3 1 d.1 x.length d.2 (ints x) :: own l (lr.ob .busy none) :: (relA q ++ boxA F))) w')
          (fun m => ys.length - m) nn ⟨rfl, rfl, rfl, rfl, rfl, rfl, trivial⟩ (fun w' hw => ⟨hgone0, hw⟩) ?_
      intro m
      refine WC.pure (fun hgone => ?_)
      refine WC.seq ?_
      refine WC.seq ?_
      refine WC.quietS (by kernel_rfl) (by kernel_rfl) (m := 14) rfl ?_
      first
      | (refine WH.take 0 rfl (by kernel_rfl) (by kernel_rfl) (by kernel_rfl) (by kernel_rfl) (fun _ h => h) (OV.load1 rfl T.u3 rfl (fun _ hw => cell_own hw (.head _) rfl)) rfl (listed' := [true, false, false, false, false, false, false, false, false, false, false, false, false, false]) rfl ?_)
      | (refine WH.take 0 rfl (by kernel_rfl) (by kernel_rfl) (by kernel_rfl) (by kernel_rfl) (fun _ h => h) (OV.load1 rfl T.u3 rfl (fun _ hw => cell_own hw (.tail _ (.head _)) rfl)) rfl (listed' := [true, false, false, false, false, false, false, false, false, false, false, false, false, false]) rfl ?_)
      | (refine WH.take 0 rfl (by kernel_rfl) (by kernel_rfl) (by kernel_rfl) (by kernel_rfl) (fun _ h => h) (OV.load1 rfl T.u3 rfl (fun _ hw => cell_own hw (.tail _ (.tail _ (.head _))) rfl)) rfl (listed' := [true, false, false, false, false, false, false, false, false, false, false, false, false, false]) rfl ?_)
      | (refine WH.take 0 rfl (by kernel_rfl) (by kernel_rfl) (by kernel_rfl) (by kernel_rfl) (fun _ h => h) (OV.load1 rfl T.u3 rfl (fun _ hw => cell_own hw (.tail _ (.tail _ (.tail _ (.head _)))) rfl)) rfl (listed' := [true, false, false, false, false, false, false, false, false, false, false, false, false, false]) rfl ?_)
      | (refine WH.take 0 rfl (by kernel_rfl) (by kernel_rfl) (by kernel_rfl) (by kernel_rfl) (fun _ h => h) (OV.load1 rfl T.u3 rfl (fun _ hw => cell_own hw (.tail _ (.tail _ (.tail _ (.tail _ (.head _))))) rfl)) rfl (listed' := [true, false, false, false, false, false, false, false, false, false, false, false, false, false]) rfl ?_)
      first
      | (refine WH.take 1 rfl (by kernel_rfl) (by kernel_rfl) (by kernel_rfl) (by kernel_rfl) (fun _ h => h) (OV.load1 rfl T.u29 rfl (fun _ hw => cell_own hw (.head _) rfl)) rfl (listed' := [true, true, false, false, false, false, false, false, false, false, false, false, false, false]) rfl ?_)
      | (refine WH.take 1 rfl (by kernel_rfl) (by kernel_rfl) (by kernel_rfl) (by kernel_rfl) (fun _ h => h) (OV.load1 rfl T.u29 rfl (fun _ hw => cell_own hw (.tail _ (.head _)) rfl)) rfl (listed' := [true, true, false, false, false, false, false, false, false, false, false, false, false, false]) rfl ?_)
      | (refine WH.take 1 rfl (by kernel_rfl) (by kernel_rfl) (by kernel_rfl) (by kernel_rfl) (fun _ h => h) (OV.load1 rfl T.u29 rfl (fun _ hw => cell_own hw (.tail _ (.tail _ (.head _))) rfl)) rfl (listed' := [true, true, false, false, false, false, false, false, false, false, false, false, false, false]) rfl ?_)
      | (refine WH.take 1 rfl (by kernel_rfl) (by kernel_rfl) (by kernel_rfl) (by kernel_rfl) (fun _ h => h) (OV.load1 rfl T.u29 rfl (fun _ hw => cell_own hw (.tail _ (.tail _ (.tail _ (.head _)))) rfl)) rfl (listed' := [true, true, false, false, false, false, false, false, false, false, false, false, false, false]) rfl ?_)
      | (refine WH.take 1 rfl (by kernel_rfl) (by kernel_rfl) (by kernel_rfl) (by kernel_rfl) (fun _ h => h) (OV.load1 rfl T.u29 rfl (fun _ hw => cell_own hw (.tail _ (.tail _ (.tail _ (.tail _ (.head _))))) rfl)) rfl (listed' := [true, true, false, false, false, false, false, false, false, false, false, false, false, false]) rfl ?_)
      first
      | (refine WH.free 2 rfl (by kernel_rfl) (by kernel_rfl) (by kernel_rfl) rfl (fun _ => (fun _ h => h)) (OV.lenSlice rfl T.u29) rfl (listed' := [true, true, true, false, false, false, false, false, false, false, false, false, false, false]) rfl ?_)
      | (refine WH.free 2 rfl (by kernel_rfl) (by kernel_rfl) (by kernel_rfl) rfl (fun _ => (fun _ h => h)) (OV.lenStr rfl T.u29) rfl (listed' := [true, true, true, false, false, false, false, false, false, false, false, false, false, false]) rfl ?_)
      refine WH.free 3 rfl (by kernel_rfl) (by kernel_rfl) (by kernel_rfl) rfl (fun _ => (fun _ h => h)) (OV.lss rfl rfl) rfl (listed' := [true, true, true, true, false, false, false, false, false, false, false, false, false, false]) rfl ?_
      refine WH.free 4 rfl (by kernel_rfl) (by kernel_rfl) (by kernel_rfl) rfl (fun _ => (fun _ h => h)) (OV.move rfl) rfl (listed' := [true, true, true, true, true, false, false, false, false, false, false, false, false, false]) rfl ?_
      refine WH.split (t := 53) rfl (fun g53 => ?_) (fun g53 => ?_)
      · try simp only [decide_eq_true_eq, decide_eq_false_iff_not, Bool.not_eq_true', Bool.not_eq_false'] at g53
        first
        | (refine WH.takeG 5 (b := true) rfl (by kernel_rfl) (by kernel_rfl) (by kernel_rfl) (by kernel_rfl) (fun _ h => h) rfl rfl rfl (OV.load1 rfl T.u29 rfl (fun _ hw => cell_own hw (.head _) rfl)) rfl (listed' := [true, true, true, true, true, true, false, false, false, false, false, false, false, false]) rfl ?_)
        | (refine WH.takeG 5 (b := true) rfl (by kernel_rfl) (by kernel_rfl) (by kernel_rfl) (by kernel_rfl) (fun _ h => h) rfl rfl rfl (OV.load1 rfl T.u29 rfl (fun _ hw => cell_own hw (.tail _ (.head _)) rfl)) rfl (listed' := [true, true, true, true, true, true, false, false, false, false, false, false, false, false]) rfl ?_)
        | (refine WH.takeG 5 (b := true) rfl (by kernel_rfl) (by kernel_rfl) (by kernel_rfl) (by kernel_rfl) (fun _ h => h) rfl rfl rfl (OV.load1 rfl T.u29 rfl (fun _ hw => cell_own hw (.tail _ (.tail _ (.head _))) rfl)) rfl (listed' := [true, true, true, true, true, true, false, false, false, false, false, false, false, false]) rfl ?_)
        | (refine WH.takeG 5 (b := true) rfl (by kernel_rfl) (by kernel_rfl) (by kernel_rfl) (by kernel_rfl) (fun _ h => h) rfl rfl rfl (OV.load1 rfl T.u29 rfl (fun _ hw => cell_own hw (.tail _ (.tail _ (.tail _ (.head _)))) rfl)) rfl (listed' := [true, true, true, true, true, true, false, false, false, false, false, false, false, false]) rfl ?_)
        | (refine WH.takeG 5 (b := true) rfl (by kernel_rfl) (by kernel_rfl) (by kernel_rfl) (by kernel_rfl) (fun _ h => h) rfl rfl rfl (OV.load1 rfl T.u29 rfl (fun _ hw => cell_own hw (.tail _ (.tail _ (.tail _ (.tail _ (.head _))))) rfl)) rfl (listed' := [true, true, true, true, true, true, false, false, false, false, false, false, false, false]) rfl ?_)
        first
        | (refine WH.takeG 6 (b := true) rfl (by kernel_rfl) (by kernel_rfl) (by kernel_rfl) (by kernel_rfl) (fun _ h => h) rfl rfl rfl (OV.load1 rfl T.u3 rfl (fun _ hw => cell_own hw (.head _) rfl)) rfl (listed' := [true, true, true, true, true, true, true, false, false, false, false, false, false, false]) rfl ?_)
        | (refine WH.takeG 6 (b := true) rfl (by kernel_rfl) (by kernel_rfl) (by kernel_rfl) (by kernel_rfl) (fun _ h => h) rfl rfl rfl (OV.load1 rfl T.u3 rfl (fun _ hw => cell_own hw (.tail _ (.head _)) rfl)) rfl (listed' := [true, true, true, true, true, true, true, false, false, false, false, false, false, false]) rfl ?_)
        | (refine WH.takeG 6 (b := true) rfl (by kernel_rfl) (by kernel_rfl) (by kernel_rfl) (by kernel_rfl) (fun _ h => h) rfl rfl rfl (OV.load1 rfl T.u3 rfl (fun _ hw => cell_own hw (.tail _ (.tail _ (.head _))) rfl)) rfl (listed' := [true, true, true, true, true, true, true, false, false, false, false, false, false, false]) rfl ?_)
        | (refine WH.takeG 6 (b := true) rfl (by kernel_rfl) (by kernel_rfl) (by kernel_rfl) (by kernel_rfl) (fun _ h => h) rfl rfl rfl (OV.load1 rfl T.u3 rfl (fun _ hw => cell_own hw (.tail _ (.tail _ (.tail _ (.head _)))) rfl)) rfl (listed' := [true, true, true, true, true, true, true, false, false, false, false, false, false, false]) rfl ?_)
        | (refine WH.takeG 6 (b := true) rfl (by kernel_rfl) (by kernel_rfl) (by kernel_rfl) (by kernel_rfl) (fun _ h => h) rfl rfl rfl (OV.load1 rfl T.u3 rfl (fun _ hw => cell_own hw (.tail _ (.tail _ (.tail _ (.tail _ (.head _))))) rfl)) rfl (listed' := [true, true, true, true, true, true, true, false, false, false, false, false, false, false]) rfl ?_)
        have hml : m < ys.length := by omega
        obtain ⟨y, hy, hym, hyl⟩ := col_at rfl hml
        obtain ⟨q5, rfl⟩ := hla (by omega)
        have hyn : y.l.length ≤ 1099511627776 := by have := (hAL y.l (List.mem_map.2 ⟨y, hym, rfl⟩)).1; have := gok.wl; omega
        refine WH.freeG 7 (b := true) rfl (by kernel_rfl) (by kernel_rfl) (by kernel_rfl) rfl (fun _ => (fun _ h => h)) rfl rfl rfl (OV.indexSliceA (i := m) rfl rfl T.u29 T.z23 (by omega)) rfl (listed' := [true, true, true, true, true, true, true, true, false, false, false, false, false, false]) rfl ?_
        refine WH.takeG 8 (b := true) rfl (by kernel_rfl) (by kernel_rfl) (by kernel_rfl) (by kernel_rfl) (fun _ h => h) rfl rfl rfl (OV.load1 (v := encC y) rfl T.u23 rfl (fun _ hw => row_cells hw (List.mem_append_left _ (.tail _ (.tail _ (.tail _ (.tail _ (.tail _ (.head _))))))) m _ (by rw [List.getElem?_map, hy]; rfl))) rfl (listed' := [true, true, true, true, true, true, true, true, true, false, false, false, false, false]) rfl ?_
        first
        | (refine WH.takeG 9 (b := true) rfl (by kernel_rfl) (by kernel_rfl) (by kernel_rfl) (by kernel_rfl) (fun _ h => h) rfl rfl rfl (OV.load1 rfl T.u23 rfl (fun _ hw => cell_own hw (.head _) rfl)) rfl (listed' := [true, true, true, true, true, true, true, true, true, true, false, false, false, false]) rfl ?_)
        | (refine WH.takeG 9 (b := true) rfl (by kernel_rfl) (by kernel_rfl) (by kernel_rfl) (by kernel_rfl) (fun _ h => h) rfl rfl rfl (OV.load1 rfl T.u23 rfl (fun _ hw => cell_own hw (.tail _ (.head _)) rfl)) rfl (listed' := [true, true, true, true, true, true, true, true, true, true, false, false, false, false]) rfl ?_)
        | (refine WH.takeG 9 (b := true) rfl (by kernel_rfl) (by kernel_rfl) (by kernel_rfl) (by kernel_rfl) (fun _ h => h) rfl rfl rfl (OV.load1 rfl T.u23 rfl (fun _ hw => cell_own hw (.tail _ (.tail _ (.head _))) rfl)) rfl (listed' := [true, true, true, true, true, true, true, true, true, true, false, false, false, false]) rfl ?_)
        | (refine WH.takeG 9 (b := true) rfl (by kernel_rfl) (by kernel_rfl) (by kernel_rfl) (by kernel_rfl) (fun _ h => h) rfl rfl rfl (OV.load1 rfl T.u23 rfl (fun _ hw => cell_own hw (.tail _ (.tail _ (.tail _ (.head _)))) rfl)) rfl (listed' := [true, true, true, true, true, true, true, true, true, true, false, false, false, false]) rfl ?_)
        | (refine WH.takeG 9 (b := true) rfl (by kernel_rfl) (by kernel_rfl) (by kernel_rfl) (by kernel_rfl) (fun _ h => h) rfl rfl rfl (OV.load1 rfl T.u23 rfl (fun _ hw => cell_own hw (.tail _ (.tail _ (.tail _ (.tail _ (.head _))))) rfl)) rfl (listed' := [true, true, true, true, true, true, true, true, true, true, false, false, false, false]) rfl ?_)
        first
        | (refine WH.takeG 10 (b := true) rfl (by kernel_rfl) (by kernel_rfl) (by kernel_rfl) (by kernel_rfl) (fun _ h => h) rfl rfl rfl (OV.load1 rfl T.u23 rfl (fun _ hw => cell_own hw (.head _) rfl)) rfl (listed' := [true, true, true, true, true, true, true, true, true, true, true, false, false, false]) rfl ?_)
        | (refine WH.takeG 10 (b := true) rfl (by kernel_rfl) (by kernel_rfl) (by kernel_rfl) (by kernel_rfl) (fun _ h => h) rfl rfl rfl (OV.load1 rfl T.u23 rfl (fun _ hw => cell_own hw (.tail _ (.head _)) rfl)) rfl (listed' := [true, true, true, true, true, true, true, true, true, true, true, false, false, false]) rfl ?_)
        | (refine WH.takeG 10 (b := true) rfl (by kernel_rfl) (by kernel_rfl) (by kernel_rfl) (by kernel_rfl) (fun _ h => h) rfl rfl rfl (OV.load1 rfl T.u23 rfl (fun _ hw => cell_own hw (.tail _ (.tail _ (.head _))) rfl)) rfl (listed' := [true, true, true, true, true, true, true, true, true, true, true, false, false, false]) rfl ?_)
        | (refine WH.takeG 10 (b := true) rfl (by kernel_rfl) (by kernel_rfl) (by kernel_rfl) (by kernel_rfl) (fun _ h => h) rfl rfl rfl (OV.load1 rfl T.u23 rfl (fun _ hw => cell_own hw (.tail _ (.tail _ (.tail _ (.head _)))) rfl)) rfl (listed' := [true, true, true, true, true, true, true, true, true, true, true, false, false, false]) rfl ?_)
        | (refine WH.takeG 10 (b := true) rfl (by kernel_rfl) (by kernel_rfl) (by kernel_rfl) (by kernel_rfl) (fun _ h => h) rfl rfl rfl (OV.load1 rfl T.u23 rfl (fun _ hw => cell_own hw (.tail _ (.tail _ (.tail _ (.tail _ (.head _))))) rfl)) rfl (listed' := [true, true, true, true, true, true, true, true, true, true, true, false, false, false]) rfl ?_)
        refine WH.only 11 rfl (by kernel_rfl) (listed' := [true, true, true, true, true, true, true, true, true, true, true, true, false, false]) rfl (fl' := false) rfl ?_
        refine WL.go (b := true) rfl rfl rfl ?_
        refine WL.call0 (v := .bool (decide (fitsL y.l cols key))) (vs := [encC y, .slice a1 m1 c1, .slice a2 m2 c2]) (by kernel_rfl) rfl rfl (fun w' hw' => (fits_calls y.l cols key y.a a1 a2 y.l.length y.c m1 c1 m2 c2 hyn hm1 hm2 w' (RI.of_row (c := y.c) hw' (List.mem_append_left _ (.tail _ (.tail _ (.tail _ (.tail _ (.tail _ (colmem hym)))))))) (hr1.keeps (SatR.keeps hS' hw')) (hr2.keeps (SatR.keeps hS' hw'))).mono (fun en w'' ⟨h1, h2⟩ => ⟨h1, h2⟩)) ?_
        refine WL.nil ?_
        refine WX.contD (by kernel_rfl) (fun _ => (fun _ h => h)) ?_
        refine WH.freeG 12 (b := true) rfl (by kernel_rfl) (by kernel_rfl) (by kernel_rfl) rfl (fun _ => (fun _ h => h)) rfl rfl rfl (OV.not rfl) rfl (listed' := [true, true, true, true, true, true, true, true, true, true, true, true, true, false]) rfl ?_
        refine WH.free 13 rfl (by kernel_rfl) (by kernel_rfl) (by kernel_rfl) rfl (fun _ => (fun _ h => h)) (OV.pickT rfl rfl) rfl (listed' := [true, true, true, true, true, true, true, true, true, true, true, true, true, true]) rfl ?_
        refine WH.done (by kernel_rfl) ?_
        refine WX.next ?_
        refine WC.cond rfl (fun c62 => ?_) (fun c62 => ?_)
        · try simp only [decide_eq_true_eq, decide_eq_false_iff_not, Bool.not_eq_true', Bool.not_eq_false'] at c62
          refine WC.skip ?_
          refine WX.next ?_
          refine WC.block ?_
          refine WC.region ?_
          first
          | (refine WL.val (OV.load1 rfl T.u3 rfl (fun _ hw => cell_own hw (.head _) rfl)) rfl ?_)
          | (refine WL.val (OV.load1 rfl T.u3 rfl (fun _ hw => cell_own hw (.tail _ (.head _)) rfl)) rfl ?_)
          | (refine WL.val (OV.load1 rfl T.u3 rfl (fun _ hw => cell_own hw (.tail _ (.tail _ (.head _))) rfl)) rfl ?_)
          | (refine WL.val (OV.load1 rfl T.u3 rfl (fun _ hw => cell_own hw (.tail _ (.tail _ (.tail _ (.head _)))) rfl)) rfl ?_)
          | (refine WL.val (OV.load1 rfl T.u3 rfl (fun _ hw => cell_own hw (.tail _ (.tail _ (.tail _ (.tail _ (.head _))))) rfl)) rfl ?_)
          first
          | (refine WL.val (OV.addI rfl rfl (by omega)) rfl ?_)
          | (refine WL.val (OV.add rfl rfl) rfl ?_)
          refine WL.store1 (o := 0) rfl rfl rfl T.z3 Nat.zero_lt_one ?_
          refine WL.nil ?_
          refine WX.block_normal ?_
          exact WX.round1 (m + 1) ⟨rfl, rfl, rfl, rfl, rfl, rfl, trivial⟩ (fun w' hw => ⟨hgone.skip hyl (by simpa using c62), hw⟩) (by show ys.length - (m + 1) < ys.length - m; omega)
        · try simp only [decide_eq_true_eq, decide_eq_false_iff_not, Bool.not_eq_true', Bool.not_eq_false'] at c62
          refine WC.exit ?_
          refine WX.then_exit ?_
          refine WX.then_exit ?_
          refine WX.block_hit ?_
          refine WX.next ?_
          refine WC.seq ?_
          refine WC.seq ?_
          refine WC.region ?_
          first
          | (refine WL.val (OV.load1 rfl T.u3 rfl (fun _ hw => cell_own hw (.head _) rfl)) rfl ?_)
          | (refine WL.val (OV.load1 rfl T.u3 rfl (fun _ hw => cell_own hw (.tail _ (.head _)) rfl)) rfl ?_)
          | (refine WL.val (OV.load1 rfl T.u3 rfl (fun _ hw => cell_own hw (.tail _ (.tail _ (.head _))) rfl)) rfl ?_)
          | (refine WL.val (OV.load1 rfl T.u3 rfl (fun _ hw => cell_own hw (.tail _ (.tail _ (.tail _ (.head _)))) rfl)) rfl ?_)
          | (refine WL.val (OV.load1 rfl T.u3 rfl (fun _ hw => cell_own hw (.tail _ (.tail _ (.tail _ (.tail _ (.head _))))) rfl)) rfl ?_)
          first
          | (refine WL.val (OV.load1 rfl T.u29 rfl (fun _ hw => cell_own hw (.head _) rfl)) rfl ?_)
          | (refine WL.val (OV.load1 rfl T.u29 rfl (fun _ hw => cell_own hw (.tail _ (.head _)) rfl)) rfl ?_)
          | (refine WL.val (OV.load1 rfl T.u29 rfl (fun _ hw => cell_own hw (.tail _ (.tail _ (.head _))) rfl)) rfl ?_)
          | (refine WL.val (OV.load1 rfl T.u29 rfl (fun _ hw => cell_own hw (.tail _ (.tail _ (.tail _ (.head _)))) rfl)) rfl ?_)
          | (refine WL.val (OV.load1 rfl T.u29 rfl (fun _ hw => cell_own hw (.tail _ (.tail _ (.tail _ (.tail _ (.head _))))) rfl)) rfl ?_)
          first
          | (refine WL.val (OV.lenSlice rfl T.u29) rfl ?_)
          | (refine WL.val (OV.lenStr rfl T.u29) rfl ?_)
          refine WL.val (OV.geq rfl rfl) rfl ?_
          refine WL.val (OV.move rfl) rfl ?_
          refine WL.known (t := 69) (b := false) rfl (by exact decide_eq_false (by omega)) ?_
          refine WL.go (b := false) rfl rfl rfl ?_
          refine WL.val (OV.move rfl) rfl ?_
          refine WL.go (b := false) rfl rfl rfl ?_
          first
          | (refine WL.val (OV.load1 rfl T.u29 rfl (fun _ hw => cell_own hw (.head _) rfl)) rfl ?_)
          | (refine WL.val (OV.load1 rfl T.u29 rfl (fun _ hw => cell_own hw (.tail _ (.head _)) rfl)) rfl ?_)
          | (refine WL.val (OV.load1 rfl T.u29 rfl (fun _ hw => cell_own hw (.tail _ (.tail _ (.head _))) rfl)) rfl ?_)
          | (refine WL.val (OV.load1 rfl T.u29 rfl (fun _ hw => cell_own hw (.tail _ (.tail _ (.tail _ (.head _)))) rfl)) rfl ?_)
          | (refine WL.val (OV.load1 rfl T.u29 rfl (fun _ hw => cell_own hw (.tail _ (.tail _ (.tail _ (.tail _ (.head _))))) rfl)) rfl ?_)
          refine WL.go (b := false) rfl rfl rfl ?_
          first
          | (refine WL.val (OV.load1 rfl T.u3 rfl (fun _ hw => cell_own hw (.head _) rfl)) rfl ?_)
          | (refine WL.val (OV.load1 rfl T.u3 rfl (fun _ hw => cell_own hw (.tail _ (.head _)) rfl)) rfl ?_)
          | (refine WL.val (OV.load1 rfl T.u3 rfl (fun _ hw => cell_own hw (.tail _ (.tail _ (.head _))) rfl)) rfl ?_)
          | (refine WL.val (OV.load1 rfl T.u3 rfl (fun _ hw => cell_own hw (.tail _ (.tail _ (.tail _ (.head _)))) rfl)) rfl ?_)
          | (refine WL.val (OV.load1 rfl T.u3 rfl (fun _ hw => cell_own hw (.tail _ (.tail _ (.tail _ (.tail _ (.head _))))) rfl)) rfl ?_)
          refine WL.go (b := false) rfl rfl rfl ?_
          refine WL.val (OV.indexSliceA (i := m) rfl rfl T.u29 T.z23 (by omega)) rfl ?_
          refine WL.go (b := false) rfl rfl rfl ?_
          refine WL.val (OV.load1 (v := encC y) rfl T.u23 rfl (fun _ hw => row_cells hw (List.mem_append_left _ (.tail _ (.tail _ (.tail _ (.tail _ (.tail _ (.head _))))))) m _ (by rw [List.getElem?_map, hy]; rfl))) rfl ?_
          refine WL.go (b := false) rfl rfl rfl ?_
          obtain ⟨hyx, hgone2⟩ := hgone.hit hF hyl (by simpa using c62) hxs
          refine WL.call0 (v := .bool true) (vs := [argr x d, encC y]) (by kernel_rfl) rfl rfl (fun w' hw' => (same_calls x y.l d.1 y.a x.length d.2 y.l.length y.c (by rw [← hyx]; exact hyn) hyn w' (RI.of_row (c := d.2) hw' (List.mem_append_right _ (.head _))) (RI.of_row (c := y.c) hw' (List.mem_append_left _ (.tail _ (.tail _ (.tail _ (.tail _ (.tail _ (colmem hym))))))))).mono (fun en w'' ⟨h1, h2⟩ => ⟨h1.trans (by rw [decide_eq_true hyx.symm]), h2⟩)) ?_
          refine WL.go (b := false) rfl rfl rfl ?_
          refine WL.val (OV.not rfl) rfl ?_
          refine WL.val (OV.pickF rfl rfl) rfl ?_
          refine WL.nil ?_
          refine WX.next ?_
          refine WC.condF rfl ?_
          refine WC.skip ?_
          refine WX.next ?_
          refine WC.region ?_
          first
          | (refine WL.val (OV.load1 rfl T.u3 rfl (fun _ hw => cell_own hw (.head _) rfl)) rfl ?_)
          | (refine WL.val (OV.load1 rfl T.u3 rfl (fun _ hw => cell_own hw (.tail _ (.head _)) rfl)) rfl ?_)
          | (refine WL.val (OV.load1 rfl T.u3 rfl (fun _ hw => cell_own hw (.tail _ (.tail _ (.head _))) rfl)) rfl ?_)
          | (refine WL.val (OV.load1 rfl T.u3 rfl (fun _ hw => cell_own hw (.tail _ (.tail _ (.tail _ (.head _)))) rfl)) rfl ?_)
          | (refine WL.val (OV.load1 rfl T.u3 rfl (fun _ hw => cell_own hw (.tail _ (.tail _ (.tail _ (.tail _ (.head _))))) rfl)) rfl ?_)
          first
          | (refine WL.val (OV.addI rfl rfl (by omega)) rfl ?_)
          | (refine WL.val (OV.add rfl rfl) rfl ?_)
          refine WL.store1 (o := 0) rfl rfl rfl T.z3 Nat.zero_lt_one ?_
          refine WL.nil ?_
          refine WX.block_normal ?_
          refine WX.focus (ow' := own l (lr.ob .busy none) :: ((CCs b16 b15 bb8 b9 b10 (.slice a1 m1 c1) (.slice a2 m2 c2) (some ⟨q5, 0, none⟩) lc ys (m + 1)) ++ (row 3 1 d.1 x.length d.2 (ints x) :: (relA q ++ boxA F)))) (perm_cat [(CCs b16 b15 bb8 b9 b10 (.slice a1 m1 c1) (.slice a2 m2 c2) (some ⟨q5, 0, none⟩) lc ys (m + 1)), [row 3 1 d.1 x.length d.2 (ints x)], [own l (lr.ob .busy none)], (relA q ++ boxA F)] [2, 0, 1, 3] (by decide) rfl) (WX.roundEnd (fun w' hw => ⟨q, m + 1, lr.ob .ready none, fun _ => ⟨⟨okq, leq, hqe, hgone2⟩, rfl⟩, fun h => (by cases h), ?_⟩))
          exact Hw.Sat.turned (hw.pick [[own l (lr.ob .ready none)], (CCs b16 b15 bb8 b9 b10 (.slice a1 m1 c1) (.slice a2 m2 c2) (some ⟨q5, 0, none⟩) lc ys (m + 1)), [row 3 1 d.1 x.length d.2 (ints x)], (relA q ++ boxA F)] [0, 3, 1] 4 rfl (by decide) (by decide))
      · try simp only [decide_eq_true_eq, decide_eq_false_iff_not, Bool.not_eq_true', Bool.not_eq_false'] at g53
        refine WH.skip 5 (b := false) rfl (by kernel_rfl) (by kernel_rfl) (by kernel_rfl) rfl (fun _ => (fun _ h => h)) rfl rfl rfl rfl (listed' := [true, true, true, true, true, true, false, false, false, false, false, false, false, false]) rfl ?_
        refine WH.skip 6 (b := false) rfl (by kernel_rfl) (by kernel_rfl) (by kernel_rfl) rfl (fun _ => (fun _ h => h)) rfl rfl rfl rfl (listed' := [true, true, true, true, true, true, true, false, false, false, false, false, false, false]) rfl ?_
        refine WH.skip 7 (b := false) rfl (by kernel_rfl) (by kernel_rfl) (by kernel_rfl) rfl (fun _ => (fun _ h => h)) rfl rfl rfl rfl (listed' := [true, true, true, true, true, true, true, true, false, false, false, false, false, false]) rfl ?_
        refine WH.skip 8 (b := false) rfl (by kernel_rfl) (by kernel_rfl) (by kernel_rfl) rfl (fun _ => (fun _ h => h)) rfl rfl rfl rfl (listed' := [true, true, true, true, true, true, true, true, true, false, false, false, false, false]) rfl ?_
        refine WH.skip 9 (b := false) rfl (by kernel_rfl) (by kernel_rfl) (by kernel_rfl) rfl (fun _ => (fun _ h => h)) rfl rfl rfl rfl (listed' := [true, true, true, true, true, true, true, true, true, true, false, false, false, false]) rfl ?_
        refine WH.skip 10 (b := false) rfl (by kernel_rfl) (by kernel_rfl) (by kernel_rfl) rfl (fun _ => (fun _ h => h)) rfl rfl rfl rfl (listed' := [true, true, true, true, true, true, true, true, true, true, true, false, false, false]) rfl ?_
        refine WH.only 11 rfl (by kernel_rfl) (listed' := [true, true, true, true, true, true, true, true, true, true, true, true, false, false]) rfl (fl' := false) rfl ?_
        refine WL.skip (b := false) rfl rfl rfl rfl ?_
        refine WL.nil ?_
        refine WX.contD (by kernel_rfl) (fun _ => (fun _ h => h)) ?_
        refine WH.skip 12 (b := false) rfl (by kernel_rfl) (by kernel_rfl) (by kernel_rfl) rfl (fun _ => (fun _ h => h)) rfl rfl rfl rfl (listed' := [true, true, true, true, true, true, true, true, true, true, true, true, true, false]) rfl ?_
        refine WH.free 13 rfl (by kernel_rfl) (by kernel_rfl) (by kernel_rfl) rfl (fun _ => (fun _ h => h)) (OV.pickF rfl rfl) rfl (listed' := [true, true, true, true, true, true, true, true, true, true, true, true, true, true]) rfl ?_
        refine WH.done (by kernel_rfl) ?_
        refine WX.next ?_
        refine WC.condF rfl ?_
        refine WC.exit ?_
        refine WX.then_exit ?_
        refine WX.then_exit ?_
        refine WX.block_hit ?_
        refine WX.next ?_
        refine WC.seq ?_
        refine WC.seq ?_
        exact absurd (hgone.more hF hkl) (by rw [List.length_map]; omega)
    · intro D q nn hJ
      obtain ⟨okq, leq, hqe, hgone0⟩ : RelOK q ∧ RelLe (colG g1 F.col) q ∧ q.es = (colG g1 F.col).es ∧ Gone (ys.map Col.l) FL (fun r => decide (fitsL r cols key)) FL.length nn := hJ
      have hqr : q.r = g.r := leq.r.trans g1le.r
      have hqw : q.width = wd := leq.width.trans (g1le.width.trans hgw)
      refine WX.block_normal ?_
      refine WX.next ?_
      refine WC.seq ?_
      refine WC.block ?_
      refine WC.focus (ow' := (CCs b16 b15 bb8 b9 b10 (.slice a1 m1 c1) (.slice a2 m2 c2) la lc ys nn) ++ (own D (.deferred (some [])) :: (mkA Ds ++ (relA q ++ boxA F)))) (perm_cat [[own D (.deferred (some []))], (relA q ++ boxA F), (CCs b16 b15 bb8 b9 b10 (.slice a1 m1 c1) (.slice a2 m2 c2) la lc ys nn), mkA Ds] [2, 0, 3, 1] (by decide) rfl) ?_
      refine WC.weak (S' := fun w' => (0 < ys.length → ∃ q, la = some ⟨q, 0, none⟩) ∧ Sat w (fun _ => False) (fun b => b < w.heap.size) w ((CCs b16 b15 bb8 b9 b10 (.slice a1 m1 c1) (.slice a2 m2 c2) la lc ys nn) ++ (own D (.deferred (some [])) :: (mkA Ds ++ (relA q ++ boxA F)))) w') (fun w' hw => ⟨lst_addr (lc := lc) hw (List.mem_append_left _ (.tail _ (.tail _ (.tail _ (.tail _ (.tail _ (.head _))))))), hw⟩) ?_
      refine WC.pure (fun hla => ?_)
      refine WC.loop1 (fun (m : Nat) => [(2, .int .i64 parts), (8, ptr bb8), (9, ptr b9), (10, ptr b10), (11, .int .i64 (wd : Int)), (12, ptr g.r), (14, .int .i64 (t : Int)), (15, ptr b15), (16, ptr b16)])
          (fun m w' => Gone (ys.map Col.l) FL (fun r => decide (fitsL r cols key)) FL.length m ∧ Sat w (fun _ => False) (fun b => b < w.heap.size) w ((CCs b16 b15 bb8 b9 b10 (.slice a1 m1 c1) (.slice a2 m2 c2) la lc ys m) ++ (own D (.deferred (some [])) :: (mkA Ds ++ (relA q ++ boxA F)))) w')
          (fun m => ys.length - m) nn ⟨rfl, rfl, rfl, rfl, rfl, rfl, rfl, rfl, rfl, trivial⟩ (fun w' hw => ⟨hgone0, hw⟩) ?_
      intro m
      refine WC.pure (fun hgone => ?_)
      refine WC.seq ?_
      refine WC.seq ?_
      refine WC.region ?_
      first
      | (refine WL.val (OV.load1 rfl T.u3 rfl (fun _ hw => cell_own hw (.head _) rfl)) rfl ?_)
      | (refine WL.val (OV.load1 rfl T.u3 rfl (fun _ hw => cell_own hw (.tail _ (.head _)) rfl)) rfl ?_)
      | (refine WL.val (OV.load1 rfl T.u3 rfl (fun _ hw => cell_own hw (.tail _ (.tail _ (.head _))) rfl)) rfl ?_)
      | (refine WL.val (OV.load1 rfl T.u3 rfl (fun _ hw => cell_own hw (.tail _ (.tail _ (.tail _ (.head _)))) rfl)) rfl ?_)
      | (refine WL.val (OV.load1 rfl T.u3 rfl (fun _ hw => cell_own hw (.tail _ (.tail _ (.tail _ (.tail _ (.head _))))) rfl)) rfl ?_)
      first
      | (refine WL.val (OV.load1 rfl T.u29 rfl (fun _ hw => cell_own hw (.head _) rfl)) rfl ?_)
      | (refine WL.val (OV.load1 rfl T.u29 rfl (fun _ hw => cell_own hw (.tail _ (.head _)) rfl)) rfl ?_)
      | (refine WL.val (OV.load1 rfl T.u29 rfl (fun _ hw => cell_own hw (.tail _ (.tail _ (.head _))) rfl)) rfl ?_)
      | (refine WL.val (OV.load1 rfl T.u29 rfl (fun _ hw => cell_own hw (.tail _ (.tail _ (.tail _ (.head _)))) rfl)) rfl ?_)
      | (refine WL.val (OV.load1 rfl T.u29 rfl (fun _ hw => cell_own hw (.tail _ (.tail _ (.tail _ (.tail _ (.head _))))) rfl)) rfl ?_)
      first
      | (refine WL.val (OV.lenSlice rfl T.u29) rfl ?_)
      | (refine WL.val (OV.lenStr rfl T.u29) rfl ?_)
      refine WL.val (OV.lss rfl rfl) rfl ?_
      refine WL.nil ?_
      refine WX.next ?_
      refine WC.cond rfl (fun c83 => ?_) (fun c83 => ?_)
      · try simp only [decide_eq_true_eq, decide_eq_false_iff_not, Bool.not_eq_true', Bool.not_eq_false'] at c83
        refine WC.skip ?_
        refine WX.next ?_
        refine WC.block ?_
        refine WC.seq ?_
        refine WC.seq ?_
        refine WC.quietS (by kernel_rfl) (by kernel_rfl) (m := 7) rfl ?_
        first
        | (refine WH.take 0 rfl (by kernel_rfl) (by kernel_rfl) (by kernel_rfl) (by kernel_rfl) (fun _ h => h) (OV.load1 rfl T.u29 rfl (fun _ hw => cell_own hw (.head _) rfl)) rfl (listed' := [true, false, false, false, false, false, false]) rfl ?_)
        | (refine WH.take 0 rfl (by kernel_rfl) (by kernel_rfl) (by kernel_rfl) (by kernel_rfl) (fun _ h => h) (OV.load1 rfl T.u29 rfl (fun _ hw => cell_own hw (.tail _ (.head _)) rfl)) rfl (listed' := [true, false, false, false, false, false, false]) rfl ?_)
        | (refine WH.take 0 rfl (by kernel_rfl) (by kernel_rfl) (by kernel_rfl) (by kernel_rfl) (fun _ h => h) (OV.load1 rfl T.u29 rfl (fun _ hw => cell_own hw (.tail _ (.tail _ (.head _))) rfl)) rfl (listed' := [true, false, false, false, false, false, false]) rfl ?_)
        | (refine WH.take 0 rfl (by kernel_rfl) (by kernel_rfl) (by kernel_rfl) (by kernel_rfl) (fun _ h => h) (OV.load1 rfl T.u29 rfl (fun _ hw => cell_own hw (.tail _ (.tail _ (.tail _ (.head _)))) rfl)) rfl (listed' := [true, false, false, false, false, false, false]) rfl ?_)
        | (refine WH.take 0 rfl (by kernel_rfl) (by kernel_rfl) (by kernel_rfl) (by kernel_rfl) (fun _ h => h) (OV.load1 rfl T.u29 rfl (fun _ hw => cell_own hw (.tail _ (.tail _ (.tail _ (.tail _ (.head _))))) rfl)) rfl (listed' := [true, false, false, false, false, false, false]) rfl ?_)
        first
        | (refine WH.take 1 rfl (by kernel_rfl) (by kernel_rfl) (by kernel_rfl) (by kernel_rfl) (fun _ h => h) (OV.load1 rfl T.u3 rfl (fun _ hw => cell_own hw (.head _) rfl)) rfl (listed' := [true, true, false, false, false, false, false]) rfl ?_)
        | (refine WH.take 1 rfl (by kernel_rfl) (by kernel_rfl) (by kernel_rfl) (by kernel_rfl) (fun _ h => h) (OV.load1 rfl T.u3 rfl (fun _ hw => cell_own hw (.tail _ (.head _)) rfl)) rfl (listed' := [true, true, false, false, false, false, false]) rfl ?_)
        | (refine WH.take 1 rfl (by kernel_rfl) (by kernel_rfl) (by kernel_rfl) (by kernel_rfl) (fun _ h => h) (OV.load1 rfl T.u3 rfl (fun _ hw => cell_own hw (.tail _ (.tail _ (.head _))) rfl)) rfl (listed' := [true, true, false, false, false, false, false]) rfl ?_)
        | (refine WH.take 1 rfl (by kernel_rfl) (by kernel_rfl) (by kernel_rfl) (by kernel_rfl) (fun _ h => h) (OV.load1 rfl T.u3 rfl (fun _ hw => cell_own hw (.tail _ (.tail _ (.tail _ (.head _)))) rfl)) rfl (listed' := [true, true, false, false, false, false, false]) rfl ?_)
        | (refine WH.take 1 rfl (by kernel_rfl) (by kernel_rfl) (by kernel_rfl) (by kernel_rfl) (fun _ h => h) (OV.load1 rfl T.u3 rfl (fun _ hw => cell_own hw (.tail _ (.tail _ (.tail _ (.tail _ (.head _))))) rfl)) rfl (listed' := [true, true, false, false, false, false, false]) rfl ?_)
        have hml : m < ys.length := by omega
        obtain ⟨y, hy, hym, hyl⟩ := col_at rfl hml
        obtain ⟨q5, rfl⟩ := hla (by omega)
        have hyn : y.l.length ≤ 1099511627776 := by have := (hAL y.l (List.mem_map.2 ⟨y, hym, rfl⟩)).1; have := gok.wl; omega
        refine WH.free 2 rfl (by kernel_rfl) (by kernel_rfl) (by kernel_rfl) rfl (fun _ => (fun _ h => h)) (OV.indexSliceA (i := m) rfl rfl T.u29 T.z23 (by omega)) rfl (listed' := [true, true, true, false, false, false, false]) rfl ?_
        refine WH.take 3 rfl (by kernel_rfl) (by kernel_rfl) (by kernel_rfl) (by kernel_rfl) (fun _ h => h) (OV.load1 (v := encC y) rfl T.u23 rfl (fun _ hw => row_cells hw (List.mem_append_left _ (.tail _ (.tail _ (.tail _ (.tail _ (.tail _ (.head _))))))) m _ (by rw [List.getElem?_map, hy]; rfl))) rfl (listed' := [true, true, true, true, false, false, false]) rfl ?_
        first
        | (refine WH.take 4 rfl (by kernel_rfl) (by kernel_rfl) (by kernel_rfl) (by kernel_rfl) (fun _ h => h) (OV.load1 rfl T.u23 rfl (fun _ hw => cell_own hw (.head _) rfl)) rfl (listed' := [true, true, true, true, true, false, false]) rfl ?_)
        | (refine WH.take 4 rfl (by kernel_rfl) (by kernel_rfl) (by kernel_rfl) (by kernel_rfl) (fun _ h => h) (OV.load1 rfl T.u23 rfl (fun _ hw => cell_own hw (.tail _ (.head _)) rfl)) rfl (listed' := [true, true, true, true, true, false, false]) rfl ?_)
        | (refine WH.take 4 rfl (by kernel_rfl) (by kernel_rfl) (by kernel_rfl) (by kernel_rfl) (fun _ h => h) (OV.load1 rfl T.u23 rfl (fun _ hw => cell_own hw (.tail _ (.tail _ (.head _))) rfl)) rfl (listed' := [true, true, true, true, true, false, false]) rfl ?_)
        | (refine WH.take 4 rfl (by kernel_rfl) (by kernel_rfl) (by kernel_rfl) (by kernel_rfl) (fun _ h => h) (OV.load1 rfl T.u23 rfl (fun _ hw => cell_own hw (.tail _ (.tail _ (.tail _ (.head _)))) rfl)) rfl (listed' := [true, true, true, true, true, false, false]) rfl ?_)
        | (refine WH.take 4 rfl (by kernel_rfl) (by kernel_rfl) (by kernel_rfl) (by kernel_rfl) (fun _ h => h) (OV.load1 rfl T.u23 rfl (fun _ hw => cell_own hw (.tail _ (.tail _ (.tail _ (.tail _ (.head _))))) rfl)) rfl (listed' := [true, true, true, true, true, false, false]) rfl ?_)
        first
        | (refine WH.take 5 rfl (by kernel_rfl) (by kernel_rfl) (by kernel_rfl) (by kernel_rfl) (fun _ h => h) (OV.load1 rfl T.u23 rfl (fun _ hw => cell_own hw (.head _) rfl)) rfl (listed' := [true, true, true, true, true, true, false]) rfl ?_)
        | (refine WH.take 5 rfl (by kernel_rfl) (by kernel_rfl) (by kernel_rfl) (by kernel_rfl) (fun _ h => h) (OV.load1 rfl T.u23 rfl (fun _ hw => cell_own hw (.tail _ (.head _)) rfl)) rfl (listed' := [true, true, true, true, true, true, false]) rfl ?_)
        | (refine WH.take 5 rfl (by kernel_rfl) (by kernel_rfl) (by kernel_rfl) (by kernel_rfl) (fun _ h => h) (OV.load1 rfl T.u23 rfl (fun _ hw => cell_own hw (.tail _ (.tail _ (.head _))) rfl)) rfl (listed' := [true, true, true, true, true, true, false]) rfl ?_)
        | (refine WH.take 5 rfl (by kernel_rfl) (by kernel_rfl) (by kernel_rfl) (by kernel_rfl) (fun _ h => h) (OV.load1 rfl T.u23 rfl (fun _ hw => cell_own hw (.tail _ (.tail _ (.tail _ (.head _)))) rfl)) rfl (listed' := [true, true, true, true, true, true, false]) rfl ?_)
        | (refine WH.take 5 rfl (by kernel_rfl) (by kernel_rfl) (by kernel_rfl) (by kernel_rfl) (fun _ h => h) (OV.load1 rfl T.u23 rfl (fun _ hw => cell_own hw (.tail _ (.tail _ (.tail _ (.tail _ (.head _))))) rfl)) rfl (listed' := [true, true, true, true, true, true, false]) rfl ?_)
        refine WH.only 6 rfl (by kernel_rfl) (listed' := [true, true, true, true, true, true, true]) rfl (fl' := false) rfl ?_
        have hnf := hgone.none hF hyl
        refine WL.call0 (v := .bool false) (vs := [encC y, .slice a1 m1 c1, .slice a2 m2 c2]) (by kernel_rfl) rfl rfl (fun w' hw' => (fits_calls y.l cols key y.a a1 a2 y.l.length y.c m1 c1 m2 c2 hyn hm1 hm2 w' (RI.of_row (c := y.c) hw' (List.mem_append_left _ (.tail _ (.tail _ (.tail _ (.tail _ (.tail _ (colmem hym)))))))) (hr1.keeps hw'.keeps) (hr2.keeps hw'.keeps)).mono (fun en w'' ⟨h1, h2⟩ => ⟨h1.trans (by rw [hnf]), h2⟩)) ?_
        refine WL.nil ?_
        refine WX.contD (by kernel_rfl) (fun _ => (fun _ h => h)) ?_
        refine WH.done (by kernel_rfl) ?_
        refine WX.next ?_
        refine WC.condF rfl ?_
        refine WC.skip ?_
        refine WX.next ?_
        refine WC.region ?_
        first
        | (refine WL.val (OV.load1 rfl T.u3 rfl (fun _ hw => cell_own hw (.head _) rfl)) rfl ?_)
        | (refine WL.val (OV.load1 rfl T.u3 rfl (fun _ hw => cell_own hw (.tail _ (.head _)) rfl)) rfl ?_)
        | (refine WL.val (OV.load1 rfl T.u3 rfl (fun _ hw => cell_own hw (.tail _ (.tail _ (.head _))) rfl)) rfl ?_)
        | (refine WL.val (OV.load1 rfl T.u3 rfl (fun _ hw => cell_own hw (.tail _ (.tail _ (.tail _ (.head _)))) rfl)) rfl ?_)
        | (refine WL.val (OV.load1 rfl T.u3 rfl (fun _ hw => cell_own hw (.tail _ (.tail _ (.tail _ (.tail _ (.head _))))) rfl)) rfl ?_)
        first
        | (refine WL.val (OV.addI rfl rfl (by omega)) rfl ?_)
        | (refine WL.val (OV.add rfl rfl) rfl ?_)
        refine WL.store1 (o := 0) rfl rfl rfl T.z3 Nat.zero_lt_one ?_
        refine WL.nil ?_
        refine WX.block_normal ?_
        exact WX.round1 (m + 1) ⟨rfl, rfl, rfl, rfl, rfl, rfl, rfl, rfl, rfl, trivial⟩ (fun w' hw => ⟨hgone.skip hyl hnf, hw⟩) (by show ys.length - (m + 1) < ys.length - m; omega)
      · try simp only [decide_eq_true_eq, decide_eq_false_iff_not, Bool.not_eq_true', Bool.not_eq_false'] at c83
        refine WC.exit ?_
        refine WX.then_exit ?_
        refine WX.then_exit ?_
        refine WX.block_hit ?_
        refine WX.next ?_
        refine WC.seq ?_
        refine WC.region ?_
        refine WL.val (OV.move rfl) rfl ?_
        first
        | (refine WL.val (OV.load1 rfl T.u23 rfl (fun _ hw => cell_own hw (.head _) rfl)) rfl ?_)
        | (refine WL.val (OV.load1 rfl T.u23 rfl (fun _ hw => cell_own hw (.tail _ (.head _)) rfl)) rfl ?_)
        | (refine WL.val (OV.load1 rfl T.u23 rfl (fun _ hw => cell_own hw (.tail _ (.tail _ (.head _))) rfl)) rfl ?_)
        | (refine WL.val (OV.load1 rfl T.u23 rfl (fun _ hw => cell_own hw (.tail _ (.tail _ (.tail _ (.head _)))) rfl)) rfl ?_)
        | (refine WL.val (OV.load1 rfl T.u23 rfl (fun _ hw => cell_own hw (.tail _ (.tail _ (.tail _ (.tail _ (.head _))))) rfl)) rfl ?_)
        refine WL.val (OV.move rfl) rfl ?_
        refine WL.call (ι := Col) (vs := [.slice a2 m2 c2, .int .i64 (wd : Int)]) (vv := fun y => encC y) (SS := fun y w' => y.l = wideL key wd ∧ Sat w (fun _ => False) (fun b => b < w.heap.size) w (row 3 1 y.a y.l.length y.c (ints y.l) :: ((CCs b16 b15 bb8 b9 b10 (.slice a1 m1 c1) (.slice a2 m2 c2) la lc ys m) ++ (own D (.deferred (some [])) :: (mkA Ds ++ (relA q ++ boxA F))))) w') (by kernel_rfl) rfl rfl (fun w' hw' => (wide_col key a2 m2 c2 wd hm2 (by omega) w' (hr2.keeps hw'.keeps)).mono (fun en w'' ⟨y, h1, h2, h3, h4⟩ => ⟨y, h1, h2, hw'.fresh h3 h4.1 h4.2⟩)) ?_
        intro y
        refine WL.pure (fun hyl => ?_)
        have hi64 : i64s y.l := by rw [hyl]; exact wideL_i64s hk wd
        have hyn : y.l.length ≤ 1099511627776 := by rw [hyl, wideL_length]; omega
        refine WL.focus (ow' := relA q ++ (row 3 1 y.a y.l.length y.c (ints y.l) :: ((CCs b16 b15 bb8 b9 b10 (.slice a1 m1 c1) (.slice a2 m2 c2) la lc ys m) ++ (own D (.deferred (some [])) :: (mkA Ds ++ boxA F))))) (perm_cat [[row 3 1 y.a y.l.length y.c (ints y.l)], (CCs b16 b15 bb8 b9 b10 (.slice a1 m1 c1) (.slice a2 m2 c2) la lc ys m), [own D (.deferred (some []))], mkA Ds, relA q, boxA F] [4, 0, 1, 2, 3, 5] (by decide) rfl) ?_
        refine WL.callTA (ι := RelG) (vs := [ptr q.r, encC y]) (vv := fun _ => .tuple #[.bool (addV q.width (rp q) y.l), .int .i64 (addE q.width y.l)]) (pp := fun qq => rp qq = addRP q.width (rp q) y.l ∧ RelOK qq ∧ RelLe q qq) (relA q) (AA := fun qq => relA qq) rfl (by kernel_rfl) (by rw [hqr]; rfl) rfl (fun w' hw' hH => (add_calls q okq y.l y.a y.l.length y.c hi64 (by omega) (by rw [hqe]; show g1.es.length < _; rw [g1es]; omega) w' (RI.of_row (c := y.c) hw' (List.mem_append_right _ (.head _))) (fun b hb _ => Sat.sepO hw' (.head _) ⟨b, hb, rfl⟩) hH).mono (fun en w'' ⟨h1, g', h2, h3, h4, h5⟩ => ⟨g', h1, ⟨h2, h3, h4⟩, h5⟩)) ?_
        rintro g97 hpp
        obtain ⟨hrp97, ok97, le97⟩ : rp g97 = addRP q.width (rp q) y.l ∧ RelOK g97 ∧ RelLe q g97 := hpp
        refine WL.nil ?_
        refine WX.next ?_
        refine WC.region ?_
        refine WL.val (OV.move rfl) rfl ?_
        refine WL.callTA (ι := Unit) (vs := [ptr g97.r]) (vv := fun _ => .int .i64 (g97.ns.length : Int)) (pp := fun _ => True) (relA g97) (AA := fun _ => relA (turnG g97)) rfl (by kernel_rfl) (by rw [le97.r, hqr]; rfl) rfl (fun w' hw' hH => (turn_calls g97 ok97 w' hH).mono (fun en w'' ⟨h1, h2⟩ => ⟨(), h1, trivial, h2⟩)) ?_
        rintro _ _
        refine WL.nil ?_
        refine WX.block_normal ?_
        refine WX.next ?_
        refine WC.region ?_
        refine WL.val (OV.move rfl) rfl ?_
        first
        | (refine WL.val (OV.addI rfl rfl (by omega)) rfl ?_)
        | (refine WL.val (OV.add rfl rfl) rfl ?_)
        refine WL.val (OV.assign rfl) rfl ?_
        refine WL.nil ?_
        exact WX.roundM (t + 1, turnG g97, D :: Ds) rfl ⟨rfl, rfl, rfl, rfl, rfl, by rw [show (turnG g97).r = g.r from le97.r.trans hqr]; rfl, rfl, trivial⟩ (fun w' hw => ⟨⟨by show t + 1 ≤ 3; omega, turnG_ok ok97, le97.width.trans hqw, by
          show (turnG g97).es.length ≤ 1048576 + (t + 1)
          have h1 := es_len hrp97
          have h2 := addRP_len q.width (rp q) y.l
          rw [rp_len, hqe] at h2
          have h3 : (colG g1 F.col).es.length = g.es.length := by show g1.es.length = _; rw [g1es]
          have h4 : (turnG g97).es.length = g97.es.length := by simp [turnG]
          omega⟩, hw.pick [relA (turnG g97), [row 3 1 y.a y.l.length y.c (ints y.l)], [box1 b16 3 (.int .i64 (m : Int)), box1 b15 29 (.slice la ys.length lc)], [box1 bb8 23 (.slice a1 m1 c1), box1 b9 23 (.slice a2 m2 c2), box1 b10 4 (.bool false)], lstA la lc ys, [own D (.deferred (some []))], mkA Ds, boxA F] [0, 3, 5, 6] 8 rfl (by decide) (by decide)⟩) (by show 3 - (t + 1) < 3 - t; omega)
    · intro D c k g2 y2 hJ
      exact hJ.elim
  · try simp only [decide_eq_true_eq, decide_eq_false_iff_not, Bool.not_eq_true', Bool.not_eq_false'] at c34
    refine WC.exit ?_
    refine WX.then_exit ?_
    refine WX.then_exit ?_
    refine WX.block_hit ?_
    refine WX.next ?_
    refine WC.seq ?_
    refine WC.focus (ow' := box1 b10 4 (.bool false) :: (relA g ++ ([box1 bb8 23 (.slice a1 m1 c1), box1 b9 23 (.slice a2 m2 c2)] ++ mkA Ds))) (perm_cat [relA g, [box1 bb8 23 (.slice a1 m1 c1), box1 b9 23 (.slice a2 m2 c2)], [box1 b10 4 (.bool false)], mkA Ds] [2, 0, 1, 3] (by decide) rfl) ?_
    refine WC.region ?_
    refine WL.store1 (o := 0) rfl rfl rfl T.z4 Nat.zero_lt_one ?_
    refine WL.nil ?_
    refine WX.next ?_
    refine WC.ret ?_
    refine WX.leave rfl (WR.focus (ow' := mkA Ds ++ (box1 b10 4 (.bool true) :: (relA g ++ [box1 bb8 23 (.slice a1 m1 c1), box1 b9 23 (.slice a2 m2 c2)]))) (perm_cat [[box1 b10 4 (.bool true)], relA g, [box1 bb8 23 (.slice a1 m1 c1), box1 b9 23 (.slice a2 m2 c2)], mkA Ds] [3, 0, 1, 2] (by decide) rfl) (WR.marks Ds (WR.retC1 (v := .bool true) rfl rfl T.u4 rfl (fun w' hw => (cell_at (hw.it _ (.head _)) rfl).1) (fun w' hw => ⟨rfl, hw.fr⟩))))

end Go.Proofs.YtijplknkpkmblaaDoor
