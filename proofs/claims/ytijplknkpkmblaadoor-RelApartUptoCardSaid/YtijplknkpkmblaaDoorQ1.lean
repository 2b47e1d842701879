/- Contracts of functions of the program: what each returns and leaves in memory. Printed by gen.py and walk.py. -/
import Derived.Test.YtijplknkpkmblaaDoorQ0
namespace Go.Proofs.YtijplknkpkmblaaDoor
open Go Go.Hw
set_option linter.unusedSimpArgs false
set_option linter.unusedVariables false
structure OE where
  a : Option Addr
  c : Nat
  n : Nat
  b : Nat
  t : Nat
def oVs (o : OE) : List Value := List.replicate o.n (.slice none 0 0) ++ [.slice (some ⟨o.b, 0, none⟩) 1 1]
def oA (o : OE) : List Hw.Item := [row 23 1 o.a (o.n + 1) o.c (oVs o), own o.b (.cells [.int .i64 (o.t : Int)].toArray 3 (0, 0))]
def oV (o : OE) : Value := .slice o.a (o.n + 1) o.c
theorem T.apO : appB Tryd.prog 49 29 1 24 = true := by kernel_rfl
theorem oVs_length (o : OE) : (oVs o).length = o.n + 1 := by simp [oVs]
theorem oVs_nil {o : OE} {k : Nat} (h : k < o.n) : (oVs o)[k]? = some (.slice none 0 0) := by
  rw [oVs, List.getElem?_append_left (by simpa using h)]
  simp [h]
theorem oVs_last (o : OE) : (oVs o)[o.n]? = some (.slice (some ⟨o.b, 0, none⟩) 1 1) := by
  rw [oVs, List.getElem?_append_right (by simp)]
  simp
theorem tlt (t : Nat) (h : t ≤ 4) (h2 : (t : Int) < 4) : t ≤ 3 := by omega
theorem nils_set {vs : List Value} {i : Nat} (h : i < vs.length) : (List.replicate i (Value.slice none 0 0) ++ vs.drop i).set i (.slice none 0 0) = List.replicate (i + 1) (Value.slice none 0 0) ++ vs.drop (i + 1) := by
  rw [List.set_append_right _ _ (by simp), List.length_replicate, Nat.sub_self, List.drop_eq_getElem_cons h, List.replicate_succ', List.append_assoc]
  rfl

set_option maxRecDepth 10000 in
theorem apart_calls (n0 : Int) (bs : List (List (List Int))) (a : Option Addr) (n c : Nat) (ms : List (List Int)) (a3 : Option Addr) (n3 c3 : Nat) (hn3 : n3 ≤ 1048576) (w : World) (hr : BLi w a n bs) (hr3 : RLi w a3 n3 ms) :
  Calls Tryd.prog 5 #[.int .i64 n0, .slice a n c, .agg #[.slice a3 n3 c3]] w fun e w' => e = .returned (.bool true) ∧ Fr0 w w' := by
  refine enterS (args := [.int .i64 n0, .slice a n c, .agg #[.slice a3 n3 c3]]) (fun _ => False) Tryd.func5 rfl Tryd.ntmps5 rfl rfl ?_
  refine WC.seq ?_
  refine WC.region ?_
  refine WL.box rfl rfl rfl ?_
  intro b5
  refine WL.val (OV.assign rfl) rfl ?_
  refine WL.nil ?_
  refine WX.next ?_
  refine WC.seq ?_
  refine WC.region ?_
  refine WL.val (OV.move rfl) rfl ?_
  refine WL.call0 (v := .int .i64 (smallN n0 : Int)) (by kernel_rfl) rfl rfl (fun w' hw' => small_calls n0 w') ?_
  obtain ⟨wd, hwd⟩ : ∃ q, q = smallN n0 := ⟨_, rfl⟩
  have hw5 : wd ≤ 5 := by rw [hwd]; exact smallN_le n0
  rw [← hwd]
  refine WL.val (OV.assign rfl) rfl ?_
  refine WL.nil ?_
  refine WX.next ?_
  refine WC.seq ?_
  refine WC.region ?_
  refine WL.val (OV.move rfl) rfl ?_
  refine WL.val (OV.move rfl) rfl ?_
  refine WL.callTA (ι := RelG) (vv := fun g => .tuple #[ptr g.r, .bool true]) (pp := fun g => RelOK g ∧ g.width = wd ∧ rp g = growTo wd bs n ∧ g.es.length ≤ 1048576) [] (AA := fun g => relA g) rfl (by kernel_rfl) rfl rfl (fun w' hw' hH => (grown_calls wd hw5 bs a n c w' (hr.keeps hw'.keeps)).mono (fun en w'' ⟨g, h1, h2, h3, h4, h5, h6⟩ => ⟨g, h1, ⟨h2, h3, h4, h5⟩, h6⟩)) ?_
  rintro g0 hpp
  obtain ⟨g0ok, g0w, g0p, g0l⟩ : RelOK g0 ∧ g0.width = wd ∧ rp g0 = growTo wd bs n ∧ g0.es.length ≤ 1048576 := hpp
  refine WL.val (OV.move rfl) rfl ?_
  refine WL.val (OV.extract rfl rfl) rfl ?_
  refine WL.val (OV.extract rfl rfl) rfl ?_
  refine WL.val (OV.assign rfl) rfl ?_
  refine WL.val (OV.assign rfl) rfl ?_
  refine WL.nil ?_
  refine WX.next ?_
  refine WC.seq ?_
  refine WC.region ?_
  refine WL.val (OV.move rfl) rfl ?_
  refine WL.val (OV.move rfl) rfl ?_
  refine WL.callTA (ι := RelG) (vv := fun g => .tuple #[ptr g.r, .bool true]) (pp := fun g => RelOK g ∧ g.width = wd ∧ rp g = growTo wd bs n ∧ g.es.length ≤ 1048576) [] (AA := fun g => relA g) rfl (by kernel_rfl) rfl rfl (fun w' hw' hH => (grown_calls wd hw5 bs a n c w' (hr.keeps hw'.keeps)).mono (fun en w'' ⟨g, h1, h2, h3, h4, h5, h6⟩ => ⟨g, h1, ⟨h2, h3, h4, h5⟩, h6⟩)) ?_
  rintro s0 hpp
  obtain ⟨s0ok, s0w, s0p, s0l⟩ : RelOK s0 ∧ s0.width = wd ∧ rp s0 = growTo wd bs n ∧ s0.es.length ≤ 1048576 := hpp
  refine WL.val (OV.move rfl) rfl ?_
  refine WL.val (OV.extract rfl rfl) rfl ?_
  refine WL.val (OV.extract rfl rfl) rfl ?_
  refine WL.val (OV.assign rfl) rfl ?_
  refine WL.val (OV.assign rfl) rfl ?_
  refine WL.nil ?_
  refine WX.next ?_
  refine WC.seq ?_
  refine WC.seq ?_
  refine WC.region ?_
  refine WL.val (OV.move rfl) rfl ?_
  refine WL.val (OV.not rfl) rfl ?_
  refine WL.val (OV.move rfl) rfl ?_
  refine WL.known (t := 41) (b := false) rfl (by rfl) ?_
  refine WL.go (b := false) rfl rfl rfl ?_
  refine WL.val (OV.move rfl) rfl ?_
  refine WL.go (b := false) rfl rfl rfl ?_
  refine WL.val (OV.not rfl) rfl ?_
  refine WL.val (OV.pickF rfl rfl) rfl ?_
  refine WL.val (OV.move rfl) rfl ?_
  refine WL.known (t := 45) (b := false) rfl (by rfl) ?_
  refine WL.go (b := false) rfl rfl rfl ?_
  refine WL.call0 (v := .bool true) (by kernel_rfl) rfl rfl (fun w' hw' => head_calls w') ?_
  refine WL.go (b := false) rfl rfl rfl ?_
  refine WL.val (OV.not rfl) rfl ?_
  refine WL.val (OV.pickF rfl rfl) rfl ?_
  refine WL.nil ?_
  refine WX.next ?_
  refine WC.condF rfl ?_
  refine WC.skip ?_
  refine WX.next ?_
  refine WC.seq ?_
  refine WC.region ?_
  refine WL.val (OV.assign rfl) rfl ?_
  refine WL.nil ?_
  refine WX.next ?_
  refine WC.seq ?_
  refine WC.region ?_
  refine WL.val (OV.assign rfl) rfl ?_
  refine WL.nil ?_
  refine WX.next ?_
  refine WC.seq ?_
  refine WC.region ?_
  refine WL.val (OV.loadN (cs := [.slice a3 n3 c3]) rfl T.u45 rfl T.z45 (fun _ hw j v hj => by rw [add_off, Nat.zero_add]; exact own_cells hw (List.mem_append_right (relA s0) (List.mem_append_right (relA g0) (.head _))) j v hj)) rfl ?_
  refine WL.val (OV.move rfl) rfl ?_
  refine WL.callTA (ι := Option Addr × Nat × List Col) (vv := fun q => .slice q.1 q.2.2.length q.2.1) (pp := fun q => q.2.2.map Col.l = ms.map (fun l => wideL l wd)) [] (AA := fun q => lstA q.1 q.2.1 q.2.2) rfl (by kernel_rfl) rfl rfl (fun w' hw' hH => (brought_calls ms a3 n3 c3 wd (by omega) (by omega) w' (hr3.keeps hw'.keeps)).mono (fun en w'' ⟨la, lc, ys, h1, h2, h3⟩ => ⟨(la, lc, ys), h1, h2, h3⟩)) ?_
  rintro ⟨la, lc, ysl⟩ hys
  have hysl : ysl.map Col.l = ms.map (fun l => wideL l wd) := hys
  have hyll : ysl.length ≤ 1048576 := by have := congrArg List.length hysl; have h2 := hr3.len; simp only [List.length_map] at this; omega
  refine WL.val (OV.assign rfl) rfl ?_
  refine WL.nil ?_
  refine WX.next ?_
  refine WC.seq ?_
  refine WC.seq ?_
  refine WC.region ?_
  refine WL.val (OV.assign rfl) rfl ?_
  refine WL.nil ?_
  refine WX.next ?_
  refine WC.block ?_
  refine WC.weak (S' := fun w' => (0 < ysl.length → ∃ q, la = some ⟨q, 0, none⟩) ∧ Sat w (fun _ => False) (fun b => b < w.heap.size) w (relA g0 ++ (relA s0 ++ lstA la lc ysl)) w') (fun w' hw => ⟨lst_addr hw (.head _), (hw.pick [lstA la lc ysl, relA s0, relA g0, [box1 b5 45 (.slice a3 n3 c3)]] [2, 1, 0] 4 rfl (by decide) (by decide))⟩) ?_
  refine WC.pure (fun hla => ?_)
  have e1 := hr.sum
  refine WC.loop7 (fun (t : Nat) (grs : RelG × RelG) (ka : Option Addr) (kc : Nat) (ks : List KE) (oac : Option Addr × Nat) (os : List OE) => [(5, ptr b5), (7, .int .i64 (wd : Int)), (8, ptr grs.1.r), (10, ptr grs.2.r), (12, .slice ka ks.length kc), (13, .slice oac.1 os.length oac.2), (14, .slice la ysl.length lc), (15, .int .i64 (t : Int))])
      (fun t grs ka kc ks oac os w' => (t ≤ 4 ∧ RelOK grs.1 ∧ grs.1.width = wd ∧ RelOK grs.2 ∧ grs.2.width = wd ∧ rp grs.1 = rp grs.2 ∧ grs.1.es.length ≤ 1048576 + t ∧ (∀ k ∈ ks, KE.good k) ∧ ks.length ≤ t * 4194400 ∧ os.length = t ∧ ∀ (j : Nat) (o : OE), os[j]? = some o → o.t = j ∧ o.n ≤ 1099511627776) ∧ Sat w (fun _ => False) (fun b => b < w.heap.size) w (relA grs.1 ++ (relA grs.2 ++ (row 91 3 ka ks.length kc (kvals ks) :: row 29 1 oac.1 os.length oac.2 (os.map oV) :: (lstA la lc ysl ++ (ks.flatMap keA ++ os.flatMap oA))))) w')
      (fun t _ _ _ _ _ _ => 4 - t) 0 (g0, s0) none 0 [] (none, 0) [] ⟨rfl, rfl, rfl, rfl, rfl, rfl, rfl, rfl, trivial⟩ (fun w' hw => ⟨⟨by omega, g0ok, g0w, s0ok, s0w, by rw [g0p, s0p], by show g0.es.length ≤ _; omega, by simp, by simp, rfl, by simp⟩, ?_⟩) ?_
  · have h1 := (hw.rowNil 29 1).rowNil 91 3
    exact (h1.perm (perm_cat [[row 91 3 none 0 0 []], [row 29 1 none 0 0 []], relA g0, relA s0, lstA la lc ysl] [2, 3, 0, 1, 4] (by decide) rfl)).perm (List.Perm.of_eq (by (simp [cat, kvals])))
  intro t grs ka kc ks oac os
  obtain ⟨gr, gs⟩ := grs
  obtain ⟨oa, oc⟩ := oac
  refine WC.env (e' := [(5, ptr b5), (7, .int .i64 (wd : Int)), (8, ptr gr.r), (10, ptr gs.r), (12, .slice ka ks.length kc), (13, .slice oa os.length oc), (14, .slice la ysl.length lc), (15, .int .i64 (t : Int))]) ⟨rfl, rfl, rfl, rfl, rfl, rfl, rfl, rfl, trivial⟩ ?_
  refine WC.weak (S' := fun w' => (t ≤ 4 ∧ RelOK gr ∧ gr.width = wd ∧ RelOK gs ∧ gs.width = wd ∧ rp gr = rp gs ∧ gr.es.length ≤ 1048576 + t ∧ (∀ k ∈ ks, KE.good k) ∧ ks.length ≤ t * 4194400 ∧ os.length = t ∧ ∀ (j : Nat) (o : OE), os[j]? = some o → o.t = j ∧ o.n ≤ 1099511627776) ∧ Sat w (fun _ => False) (fun b => b < w.heap.size) w (relA gr ++ (relA gs ++ (row 91 3 ka ks.length kc (kvals ks) :: row 29 1 oa os.length oc (os.map oV) :: (lstA la lc ysl ++ (ks.flatMap keA ++ os.flatMap oA))))) w') (fun _ h => h) ?_
  refine WC.pure (fun hi => ?_)
  obtain ⟨hi, hrok, hrw, hsok, hsw, hrp, hel, hksg, hksl, hosl, hos⟩ := hi
  have hes : gs.es.length = gr.es.length := by have h1 := es_len hrp; rw [rp_len] at h1; exact h1.symm
  refine WC.seq ?_
  refine WC.seq ?_
  refine WC.region ?_
  refine WL.val (OV.move rfl) rfl ?_
  refine WL.val (OV.lss rfl rfl) rfl ?_
  refine WL.nil ?_
  refine WX.next ?_
  refine WC.cond rfl (fun c53 => ?_) (fun c53 => ?_)
  · try simp only [decide_eq_true_eq, decide_eq_false_iff_not, Bool.not_eq_true', Bool.not_eq_false'] at c53
    refine WC.skip ?_
    refine WX.next ?_
    refine WC.seq ?_
    refine WC.block ?_
    refine WC.seq ?_
    refine WC.region ?_
    refine WL.val (OV.move rfl) rfl ?_
    refine WL.callTA (ι := RelG × Option Addr × Nat × List Col) (vs := [ptr gr.r, .int .i64 7]) (vv := fun q => .slice q.2.1 q.2.2.2.length q.2.2.1) (pp := fun q => q.2.2.2.map Col.l = selR (rp gr) 7 [] [] ∧ RelOK q.1 ∧ RelLe gr q.1 ∧ q.1.es = gr.es) (relA gr) (AA := fun q => relA q.1 ++ lstA q.2.1 q.2.2.1 q.2.2.2) rfl (by kernel_rfl) (by rfl) rfl (fun w' hw' hH => (rows_calls gr hrok 7 w' hH).mono (fun en w'' ⟨g', la, lc, ys, h1, h2, h3, h4, h5, h6⟩ => ⟨(g', la, lc, ys), h1, ⟨h2, h3, h4, h5⟩, h6⟩)) ?_
    rintro ⟨g1, la1, lc1, ys1⟩ hpp
    obtain ⟨hys1, g1ok, g1le, g1es⟩ : ys1.map Col.l = selR (rp gr) 7 [] [] ∧ RelOK g1 ∧ RelLe gr g1 ∧ g1.es = gr.es := hpp
    have hys1n : ys1.length ≤ gr.es.length := sel_all_len hys1
    rw [List.append_assoc]
    refine WL.val (OV.assign rfl) rfl ?_
    refine WL.nil ?_
    refine WX.next ?_
    refine WC.seq ?_
    refine WC.region ?_
    refine WL.val (OV.move rfl) rfl ?_
    refine WL.callTA (ι := RelG × Option Addr × Nat × List Col) (vs := [ptr g1.r, .int .i64 7]) (vv := fun q => .slice q.2.1 q.2.2.2.length q.2.2.1) (pp := fun q => q.2.2.2.map Col.l = selR (rp g1) 7 [] [] ∧ RelOK q.1 ∧ RelLe g1 q.1 ∧ q.1.es = g1.es) (relA g1) (AA := fun q => relA q.1 ++ lstA q.2.1 q.2.2.1 q.2.2.2) rfl (by kernel_rfl) (by rw [g1le.r]; rfl) rfl (fun w' hw' hH => (rows_calls g1 g1ok 7 w' hH).mono (fun en w'' ⟨g', la, lc, ys, h1, h2, h3, h4, h5, h6⟩ => ⟨(g', la, lc, ys), h1, ⟨h2, h3, h4, h5⟩, h6⟩)) ?_
    rintro ⟨g2, la2, lc2, ys2⟩ hpp
    obtain ⟨hys2, g2ok, g2le, g2es⟩ : ys2.map Col.l = selR (rp g1) 7 [] [] ∧ RelOK g2 ∧ RelLe g1 g2 ∧ g2.es = g1.es := hpp
    have hys2n : ys2.length ≤ g1.es.length := sel_all_len hys2
    rw [List.append_assoc]
    refine WL.val (OV.assign rfl) rfl ?_
    refine WL.nil ?_
    refine WX.next ?_
    refine WC.seq ?_
    refine WC.region ?_
    refine WL.val (OV.move rfl) rfl ?_
    refine WL.callTA (ι := RelG × Option Addr × Nat × List Col) (vs := [ptr g2.r]) (vv := fun q => .slice q.2.1 q.2.2.2.length q.2.2.1) (pp := fun q => q.2.2.2.map Col.l = selR (rp g2) 7 [] [] ∧ RelOK q.1 ∧ RelLe g2 q.1 ∧ q.1.es = g2.es) (relA g2) (AA := fun q => relA q.1 ++ lstA q.2.1 q.2.2.1 q.2.2.2) rfl (by kernel_rfl) (by rw [g2le.r, g1le.r]; rfl) rfl (fun w' hw' hH => (given_calls g2 g2ok w' hH).mono (fun en w'' ⟨g', la, lc, ys, h1, h2, h3, h4, h5, h6⟩ => ⟨(g', la, lc, ys), h1, ⟨h2, h3, h4, h5⟩, h6⟩)) ?_
    rintro ⟨g3, la3, lc3, ys3⟩ hpp
    obtain ⟨hys3, g3ok, g3le, g3es⟩ : ys3.map Col.l = selR (rp g2) 7 [] [] ∧ RelOK g3 ∧ RelLe g2 g3 ∧ g3.es = g2.es := hpp
    have hys3n : ys3.length ≤ g2.es.length := sel_all_len hys3
    rw [List.append_assoc]
    refine WL.val (OV.assign rfl) rfl ?_
    refine WL.nil ?_
    refine WX.next ?_
    refine WC.seq ?_
    refine WC.region ?_
    refine WL.val (OV.move rfl) rfl ?_
    refine WL.callTA (ι := RelG × Option Addr × Nat × List Col) (vs := [ptr g3.r]) (vv := fun q => .slice q.2.1 q.2.2.2.length q.2.2.1) (pp := fun q => q.2.2.2.map Col.l = selR (rp g3) 7 [] [] ∧ RelOK q.1 ∧ RelLe g3 q.1 ∧ q.1.es = g3.es) (relA g3) (AA := fun q => relA q.1 ++ lstA q.2.1 q.2.2.1 q.2.2.2) rfl (by kernel_rfl) (by rw [g3le.r, g2le.r, g1le.r]; rfl) rfl (fun w' hw' hH => (given_calls g3 g3ok w' hH).mono (fun en w'' ⟨g', la, lc, ys, h1, h2, h3, h4, h5, h6⟩ => ⟨(g', la, lc, ys), h1, ⟨h2, h3, h4, h5⟩, h6⟩)) ?_
    rintro ⟨g4, la4, lc4, ys4⟩ hpp
    obtain ⟨hys4, g4ok, g4le, g4es⟩ : ys4.map Col.l = selR (rp g3) 7 [] [] ∧ RelOK g4 ∧ RelLe g3 g4 ∧ g4.es = g3.es := hpp
    have hys4n : ys4.length ≤ g3.es.length := sel_all_len hys4
    rw [List.append_assoc]
    refine WL.val (OV.assign rfl) rfl ?_
    refine WL.nil ?_
    refine WX.next ?_
    refine WC.seq ?_
    refine WC.focus (ow' := relA gs ++ (relA g4 ++ (lstA la4 lc4 ys4 ++ (lstA la3 lc3 ys3 ++ (lstA la2 lc2 ys2 ++ (lstA la1 lc1 ys1 ++ (row 91 3 ka ks.length kc (kvals ks) :: row 29 1 oa os.length oc (os.map oV) :: (lstA la lc ysl ++ (ks.flatMap keA ++ os.flatMap oA))))))))) (perm_cat [relA g4, lstA la4 lc4 ys4, lstA la3 lc3 ys3, lstA la2 lc2 ys2, lstA la1 lc1 ys1, relA gs, (row 91 3 ka ks.length kc (kvals ks) :: row 29 1 oa os.length oc (os.map oV) :: (lstA la lc ysl ++ (ks.flatMap keA ++ os.flatMap oA)))] [5, 0, 1, 2, 3, 4, 6] (by decide) rfl) ?_
    refine WC.region ?_
    refine WL.val (OV.move rfl) rfl ?_
    refine WL.callTA (ι := RelG × Option Addr × Nat × List Col) (vs := [ptr gs.r, .int .i64 7]) (vv := fun q => .slice q.2.1 q.2.2.2.length q.2.2.1) (pp := fun q => q.2.2.2.map Col.l = selR (rp gs) 7 [] [] ∧ RelOK q.1 ∧ RelLe gs q.1 ∧ q.1.es = gs.es) (relA gs) (AA := fun q => relA q.1 ++ lstA q.2.1 q.2.2.1 q.2.2.2) rfl (by kernel_rfl) (by rfl) rfl (fun w' hw' hH => (rows_calls gs hsok 7 w' hH).mono (fun en w'' ⟨g', la, lc, ys, h1, h2, h3, h4, h5, h6⟩ => ⟨(g', la, lc, ys), h1, ⟨h2, h3, h4, h5⟩, h6⟩)) ?_
    rintro ⟨h1, la5, lc5, ys5⟩ hpp
    obtain ⟨hys5, h1ok, h1le, h1es⟩ : ys5.map Col.l = selR (rp gs) 7 [] [] ∧ RelOK h1 ∧ RelLe gs h1 ∧ h1.es = gs.es := hpp
    have hys5n : ys5.length ≤ gs.es.length := sel_all_len hys5
    rw [List.append_assoc]
    have e2 : rp g1 = rp gr := by unfold rp; rw [g1es]
    have e3 : rp g2 = rp gr := by unfold rp; rw [g2es, g1es]
    have e4 : rp g3 = rp gr := by unfold rp; rw [g3es, g2es, g1es]
    have heq1 : ys1.map Col.l = ys5.map Col.l := by rw [hys1, hys5, hrp]
    have heq2 : ys2.map Col.l = ys5.map Col.l := by rw [hys2, hys5, e2, hrp]
    have heq3 : ys3.map Col.l = ys5.map Col.l := by rw [hys3, hys5, e3, hrp]
    have heq4 : ys4.map Col.l = ys5.map Col.l := by rw [hys4, hys5, e4, hrp]
    have hal5 : ∀ r ∈ ys5.map Col.l, r.length = wd ∧ i64s r := by rw [hys5, ← hsw]; exact sel_lens hsok
    have hal1 : ∀ r ∈ ys1.map Col.l, r.length = wd ∧ i64s r := by rw [heq1]; exact hal5
    have hal2 : ∀ r ∈ ys2.map Col.l, r.length = wd ∧ i64s r := by rw [heq2]; exact hal5
    have hal3 : ∀ r ∈ ys3.map Col.l, r.length = wd ∧ i64s r := by rw [heq3]; exact hal5
    have hal4 : ∀ r ∈ ys4.map Col.l, r.length = wd ∧ i64s r := by rw [heq4]; exact hal5
    have hn1 : ys1.length = ys5.length := by have := congrArg List.length heq1; simpa using this
    have hn2 : ys2.length = ys5.length := by have := congrArg List.length heq2; simpa using this
    have hn3' : ys3.length = ys5.length := by have := congrArg List.length heq3; simpa using this
    have hn4 : ys4.length = ys5.length := by have := congrArg List.length heq4; simpa using this
    have e5 : rp g4 = rp gr := by unfold rp; rw [g4es, g3es, g2es, g1es]
    have e6 : rp h1 = rp gs := by unfold rp; rw [h1es]
    have g4w : g4.width = wd := g4le.width.trans (g3le.width.trans (g2le.width.trans (g1le.width.trans hrw)))
    have h1w : h1.width = wd := h1le.width.trans hsw
    have g4l : g4.es.length = gr.es.length := by rw [g4es, g3es, g2es, g1es]
    have h1l : h1.es.length = gs.es.length := by rw [h1es]
    have e7 := tlt t hi c53
    refine WL.val (OV.assign rfl) rfl ?_
    refine WL.nil ?_
    refine WX.next ?_
    refine WC.seq ?_
    refine WC.seq ?_
    refine WC.region ?_
    refine WL.val (OV.move rfl) rfl ?_
    refine WL.val (OV.move rfl) rfl ?_
    refine WL.call0 (v := .bool true) (by kernel_rfl) rfl rfl (fun w' hw' => (sameRows_calls (ys1.map Col.l) (ys5.map Col.l) la1 la5 ys1.length lc1 ys5.length lc5 w' (RLi.of_lst (c := lc1) hw' (fun i hi => List.mem_append_right _ (List.mem_append_right _ (List.mem_append_right _ (List.mem_append_right _ (List.mem_append_right _ (List.mem_append_right _ (List.mem_append_left _ hi))))))) (by omega) (fun l hl => by have := (hal1 l hl).1; omega) (fun l hl => (hal1 l hl).2)) (RLi.of_lst (c := lc5) hw' (fun i hi => List.mem_append_right _ (List.mem_append_left _ hi)) (by omega) (fun l hl => by have := (hal5 l hl).1; omega) (fun l hl => (hal5 l hl).2))).mono (fun en w'' ⟨h1, h2⟩ => ⟨h1.trans (by rw [decide_eq_true heq1]), h2⟩)) ?_
    refine WL.val (OV.not rfl) rfl ?_
    refine WL.val (OV.move rfl) rfl ?_
    refine WL.known (t := 70) (b := false) rfl (by rfl) ?_
    refine WL.go (b := false) rfl rfl rfl ?_
    refine WL.val (OV.move rfl) rfl ?_
    refine WL.go (b := false) rfl rfl rfl ?_
    refine WL.val (OV.move rfl) rfl ?_
    refine WL.go (b := false) rfl rfl rfl ?_
    refine WL.call0 (v := .bool true) (by kernel_rfl) rfl rfl (fun w' hw' => (sameRows_calls (ys2.map Col.l) (ys5.map Col.l) la2 la5 ys2.length lc2 ys5.length lc5 w' (RLi.of_lst (c := lc2) hw' (fun i hi => List.mem_append_right _ (List.mem_append_right _ (List.mem_append_right _ (List.mem_append_right _ (List.mem_append_right _ (List.mem_append_left _ hi)))))) (by omega) (fun l hl => by have := (hal2 l hl).1; omega) (fun l hl => (hal2 l hl).2)) (RLi.of_lst (c := lc5) hw' (fun i hi => List.mem_append_right _ (List.mem_append_left _ hi)) (by omega) (fun l hl => by have := (hal5 l hl).1; omega) (fun l hl => (hal5 l hl).2))).mono (fun en w'' ⟨h1, h2⟩ => ⟨h1.trans (by rw [decide_eq_true heq2]), h2⟩)) ?_
    refine WL.go (b := false) rfl rfl rfl ?_
    refine WL.val (OV.not rfl) rfl ?_
    refine WL.val (OV.pickF rfl rfl) rfl ?_
    refine WL.val (OV.move rfl) rfl ?_
    refine WL.known (t := 76) (b := false) rfl (by rfl) ?_
    refine WL.go (b := false) rfl rfl rfl ?_
    refine WL.val (OV.move rfl) rfl ?_
    refine WL.go (b := false) rfl rfl rfl ?_
    refine WL.val (OV.move rfl) rfl ?_
    refine WL.go (b := false) rfl rfl rfl ?_
    refine WL.call0 (v := .bool true) (by kernel_rfl) rfl rfl (fun w' hw' => (sameRows_calls (ys3.map Col.l) (ys5.map Col.l) la3 la5 ys3.length lc3 ys5.length lc5 w' (RLi.of_lst (c := lc3) hw' (fun i hi => List.mem_append_right _ (List.mem_append_right _ (List.mem_append_right _ (List.mem_append_right _ (List.mem_append_left _ hi))))) (by omega) (fun l hl => by have := (hal3 l hl).1; omega) (fun l hl => (hal3 l hl).2)) (RLi.of_lst (c := lc5) hw' (fun i hi => List.mem_append_right _ (List.mem_append_left _ hi)) (by omega) (fun l hl => by have := (hal5 l hl).1; omega) (fun l hl => (hal5 l hl).2))).mono (fun en w'' ⟨h1, h2⟩ => ⟨h1.trans (by rw [decide_eq_true heq3]), h2⟩)) ?_
    refine WL.go (b := false) rfl rfl rfl ?_
    refine WL.val (OV.not rfl) rfl ?_
    refine WL.val (OV.pickF rfl rfl) rfl ?_
    refine WL.val (OV.move rfl) rfl ?_
    refine WL.known (t := 82) (b := false) rfl (by rfl) ?_
    refine WL.go (b := false) rfl rfl rfl ?_
    refine WL.val (OV.move rfl) rfl ?_
    refine WL.go (b := false) rfl rfl rfl ?_
    refine WL.val (OV.move rfl) rfl ?_
    refine WL.go (b := false) rfl rfl rfl ?_
    refine WL.call0 (v := .bool true) (by kernel_rfl) rfl rfl (fun w' hw' => (sameRows_calls (ys4.map Col.l) (ys5.map Col.l) la4 la5 ys4.length lc4 ys5.length lc5 w' (RLi.of_lst (c := lc4) hw' (fun i hi => List.mem_append_right _ (List.mem_append_right _ (List.mem_append_right _ (List.mem_append_left _ hi)))) (by omega) (fun l hl => by have := (hal4 l hl).1; omega) (fun l hl => (hal4 l hl).2)) (RLi.of_lst (c := lc5) hw' (fun i hi => List.mem_append_right _ (List.mem_append_left _ hi)) (by omega) (fun l hl => by have := (hal5 l hl).1; omega) (fun l hl => (hal5 l hl).2))).mono (fun en w'' ⟨h1, h2⟩ => ⟨h1.trans (by rw [decide_eq_true heq4]), h2⟩)) ?_
    refine WL.go (b := false) rfl rfl rfl ?_
    refine WL.val (OV.not rfl) rfl ?_
    refine WL.val (OV.pickF rfl rfl) rfl ?_
    refine WL.nil ?_
    refine WX.next ?_
    refine WC.condF rfl ?_
    refine WC.skip ?_
    refine WX.next ?_
    refine WC.seq ?_
    refine WC.weak (S' := Sat w (fun _ => False) (fun b => b < w.heap.size) w (lstA la1 lc1 ys1 ++ ([row 91 3 ka ks.length kc (kvals ks)] ++ (ks.flatMap keA ++ (lstA la2 lc2 ys2 ++ (lstA la3 lc3 ys3 ++ (lstA la4 lc4 ys4 ++ ((row 29 1 oa os.length oc (os.map oV) :: (relA h1 ++ (relA g4 ++ (lstA la lc ysl ++ os.flatMap oA)))))))))))) (fun w' hw => (hw.pick [relA h1, lstA la5 lc5 ys5, relA g4, lstA la4 lc4 ys4, lstA la3 lc3 ys3, lstA la2 lc2 ys2, lstA la1 lc1 ys1, [row 91 3 ka ks.length kc (kvals ks)], [row 29 1 oa os.length oc (os.map oV)], lstA la lc ysl, ks.flatMap keA, os.flatMap oA] [6, 7, 10, 5, 4, 3, 8, 0, 2, 9, 11] 12 rfl (by decide) (by decide)).perm (List.Perm.of_eq (by simp [cat]))) ?_
    refine WC.region ?_
    refine WL.val (OV.move rfl) rfl ?_
    refine WL.val (OV.move rfl) rfl ?_
    refine WL.val (OV.move rfl) rfl ?_
    refine WL.val ((OV.mulI (a := 4) (b := (t : Int)) rfl rfl (by omega)).cast (u := .int .i64 ((4 * t : Nat) : Int)) (by first | rfl | (congr 1; omega))) rfl ?_
    have hy51 : ∀ y ∈ ys1, y.l.length ≤ 5 := fun y hy => by have := (hal1 y.l (List.mem_map.2 ⟨y, hy, rfl⟩)).1; omega
    refine WL.callTA (ι := Option Addr × Nat × List KE) (vv := fun z => .slice z.1 z.2.2.length z.2.1) (pp := fun z => (∀ k ∈ z.2.2, KE.good k) ∧ z.2.2.length = ys1.length) (lstA la1 lc1 ys1) (AA := fun z => row 23 1 la1 ys1.length lc1 (ys1.map encC) :: row 91 3 z.1 z.2.2.length z.2.1 (kvals z.2.2) :: z.2.2.flatMap keA) rfl (by kernel_rfl) rfl rfl (fun w' hw' hH => (lend_calls (4 * t) (by omega) la1 lc1 ys1 (by omega) hy51 w' hH).mono (fun en w'' ⟨ka, kc, ks, h1, h2, h3, h4⟩ => ⟨(ka, kc, ks), h1, ⟨h2, h3⟩, h4⟩)) ?_
    rintro ⟨xa1, xc1, kn1⟩ hpp
    obtain ⟨hkg1, hkl1⟩ : (∀ k ∈ kn1, KE.good k) ∧ kn1.length = ys1.length := hpp
    refine WL.focus (ow' := row 91 3 ka ks.length kc (kvals ks) :: (row 23 1 la1 ys1.length lc1 (ys1.map encC) :: row 91 3 xa1 kn1.length xc1 (kvals kn1) :: (kn1.flatMap keA ++ (ks.flatMap keA ++ (lstA la2 lc2 ys2 ++ (lstA la3 lc3 ys3 ++ (lstA la4 lc4 ys4 ++ ((row 29 1 oa os.length oc (os.map oV) :: (relA h1 ++ (relA g4 ++ (lstA la lc ysl ++ os.flatMap oA)))))))))))) (perm_cat [[row 23 1 la1 ys1.length lc1 (ys1.map encC), row 91 3 xa1 kn1.length xc1 (kvals kn1)], kn1.flatMap keA, [row 91 3 ka ks.length kc (kvals ks)], ks.flatMap keA ++ (lstA la2 lc2 ys2 ++ (lstA la3 lc3 ys3 ++ (lstA la4 lc4 ys4 ++ ((row 29 1 oa os.length oc (os.map oV) :: (relA h1 ++ (relA g4 ++ (lstA la lc ysl ++ os.flatMap oA))))))))] [2, 0, 1, 3] (by decide) rfl) (WL.append (a2 := xa1) (m2 := kn1.length) (c2 := xc1) (news := kvals kn1) rfl rfl T.apK (fun _ hw => row_src (T := 91) (size := 3) (cap := xc1) (.tail _ (.tail _ (.head _))) hw) (kvals_one _) ⟨by omega, by unfold maxLen; omega⟩ rfl ?_)
    intro kaA kcA
    refine WL.val (OV.assign rfl) rfl ?_
    refine WL.nil ?_
    refine WX.next ?_
    refine WC.seq ?_
    obtain ⟨kA, hkA⟩ : ∃ z, z = ks ++ kn1 := ⟨_, rfl⟩
    have hkAl : kA.length = ks.length + kn1.length := by rw [hkA, List.length_append]
    have hkAg : ∀ z ∈ kA, KE.good z := fun z hz => by rw [hkA] at hz; exact (List.mem_append.1 hz).elim (hksg z) (hkg1 z)
    refine WC.env (e' := [(5, ptr b5), (7, .int .i64 (wd : Int)), (8, ptr gr.r), (10, ptr gs.r), (12, .slice kaA kA.length kcA), (13, .slice oa os.length oc), (14, .slice la ysl.length lc), (15, .int .i64 (t : Int)), (16, .slice la1 ys1.length lc1), (17, .slice la2 ys2.length lc2), (18, .slice la3 ys3.length lc3), (19, .slice la4 ys4.length lc4)]) ⟨rfl, rfl, rfl, rfl, by rw [hkAl]; rfl, rfl, rfl, rfl, rfl, rfl, rfl, rfl, trivial⟩ ?_
    refine WC.weak (S' := Sat w (fun _ => False) (fun b => b < w.heap.size) w (lstA la2 lc2 ys2 ++ ([row 91 3 kaA kA.length kcA (kvals kA)] ++ (kA.flatMap keA ++ ([row 23 1 la1 ys1.length lc1 (ys1.map encC)] ++ (lstA la3 lc3 ys3 ++ (lstA la4 lc4 ys4 ++ ((row 29 1 oa os.length oc (os.map oV) :: (relA h1 ++ (relA g4 ++ (lstA la lc ysl ++ os.flatMap oA)))))))))))) (fun w' hw => ?_) ?_
    · show Sat _ _ _ _ (lstA la2 lc2 ys2 ++ ([row 91 3 kaA kA.length kcA (kvals kA)] ++ (kA.flatMap keA ++ ([row 23 1 la1 ys1.length lc1 (ys1.map encC)] ++ (lstA la3 lc3 ys3 ++ (lstA la4 lc4 ys4 ++ ((row 29 1 oa os.length oc (os.map oV) :: (relA h1 ++ (relA g4 ++ (lstA la lc ysl ++ os.flatMap oA))))))))))) _
      have e1 : row 91 3 kaA kA.length kcA (kvals kA) = row 91 3 kaA (ks.length + kn1.length) kcA (kvals ks ++ kvals kn1) := by rw [hkAl, hkA, kvals_append]
      have e2 : kA.flatMap keA = ks.flatMap keA ++ kn1.flatMap keA := by rw [hkA, List.flatMap_append]
      rw [e1, e2]
      have h1 := hw.pick [[row 91 3 kaA (ks.length + kn1.length) kcA (kvals ks ++ kvals kn1)], [row 23 1 la1 ys1.length lc1 (ys1.map encC)], [row 91 3 xa1 kn1.length xc1 (kvals kn1)], kn1.flatMap keA, ks.flatMap keA, lstA la2 lc2 ys2, lstA la3 lc3 ys3, lstA la4 lc4 ys4, (row 29 1 oa os.length oc (os.map oV) :: (relA h1 ++ (relA g4 ++ (lstA la lc ysl ++ os.flatMap oA))))] [5, 0, 4, 3, 1, 6, 7, 8] 9 rfl (by decide) (by decide)
      exact h1.perm (List.Perm.of_eq (by simp [cat]))
    refine WC.region ?_
    refine WL.val (OV.move rfl) rfl ?_
    refine WL.val (OV.move rfl) rfl ?_
    refine WL.val (OV.move rfl) rfl ?_
    refine WL.val (OV.mulI (a := 4) (b := (t : Int)) rfl rfl (by omega)) rfl ?_
    refine WL.val ((OV.addI (a := 4 * (t : Int)) (b := 1) rfl rfl (by omega)).cast (u := .int .i64 ((4 * t + 1 : Nat) : Int)) (by first | rfl | (congr 1; omega))) rfl ?_
    have hy52 : ∀ y ∈ ys2, y.l.length ≤ 5 := fun y hy => by have := (hal2 y.l (List.mem_map.2 ⟨y, hy, rfl⟩)).1; omega
    refine WL.callTA (ι := Option Addr × Nat × List KE) (vv := fun z => .slice z.1 z.2.2.length z.2.1) (pp := fun z => (∀ k ∈ z.2.2, KE.good k) ∧ z.2.2.length = ys2.length) (lstA la2 lc2 ys2) (AA := fun z => row 23 1 la2 ys2.length lc2 (ys2.map encC) :: row 91 3 z.1 z.2.2.length z.2.1 (kvals z.2.2) :: z.2.2.flatMap keA) rfl (by kernel_rfl) rfl rfl (fun w' hw' hH => (lend_calls (4 * t + 1) (by omega) la2 lc2 ys2 (by omega) hy52 w' hH).mono (fun en w'' ⟨ka, kc, ks, h1, h2, h3, h4⟩ => ⟨(ka, kc, ks), h1, ⟨h2, h3⟩, h4⟩)) ?_
    rintro ⟨xa2, xc2, kn2⟩ hpp
    obtain ⟨hkg2, hkl2⟩ : (∀ k ∈ kn2, KE.good k) ∧ kn2.length = ys2.length := hpp
    refine WL.focus (ow' := row 91 3 kaA kA.length kcA (kvals kA) :: (row 23 1 la2 ys2.length lc2 (ys2.map encC) :: row 91 3 xa2 kn2.length xc2 (kvals kn2) :: (kn2.flatMap keA ++ (kA.flatMap keA ++ ([row 23 1 la1 ys1.length lc1 (ys1.map encC)] ++ (lstA la3 lc3 ys3 ++ (lstA la4 lc4 ys4 ++ ((row 29 1 oa os.length oc (os.map oV) :: (relA h1 ++ (relA g4 ++ (lstA la lc ysl ++ os.flatMap oA)))))))))))) (perm_cat [[row 23 1 la2 ys2.length lc2 (ys2.map encC), row 91 3 xa2 kn2.length xc2 (kvals kn2)], kn2.flatMap keA, [row 91 3 kaA kA.length kcA (kvals kA)], kA.flatMap keA ++ ([row 23 1 la1 ys1.length lc1 (ys1.map encC)] ++ (lstA la3 lc3 ys3 ++ (lstA la4 lc4 ys4 ++ ((row 29 1 oa os.length oc (os.map oV) :: (relA h1 ++ (relA g4 ++ (lstA la lc ysl ++ os.flatMap oA))))))))] [2, 0, 1, 3] (by decide) rfl) (WL.append (a2 := xa2) (m2 := kn2.length) (c2 := xc2) (news := kvals kn2) rfl rfl T.apK (fun _ hw => row_src (T := 91) (size := 3) (cap := xc2) (.tail _ (.tail _ (.head _))) hw) (kvals_one _) ⟨by omega, by unfold maxLen; omega⟩ rfl ?_)
    intro kaB kcB
    refine WL.val (OV.assign rfl) rfl ?_
    refine WL.nil ?_
    refine WX.next ?_
    refine WC.seq ?_
    obtain ⟨kB, hkB⟩ : ∃ z, z = kA ++ kn2 := ⟨_, rfl⟩
    have hkBl : kB.length = kA.length + kn2.length := by rw [hkB, List.length_append]
    have hkBg : ∀ z ∈ kB, KE.good z := fun z hz => by rw [hkB] at hz; exact (List.mem_append.1 hz).elim (hkAg z) (hkg2 z)
    refine WC.env (e' := [(5, ptr b5), (7, .int .i64 (wd : Int)), (8, ptr gr.r), (10, ptr gs.r), (12, .slice kaB kB.length kcB), (13, .slice oa os.length oc), (14, .slice la ysl.length lc), (15, .int .i64 (t : Int)), (16, .slice la1 ys1.length lc1), (18, .slice la3 ys3.length lc3), (19, .slice la4 ys4.length lc4)]) ⟨rfl, rfl, rfl, rfl, by rw [hkBl]; rfl, rfl, rfl, rfl, rfl, rfl, rfl, trivial⟩ ?_
    refine WC.weak (S' := Sat w (fun _ => False) (fun b => b < w.heap.size) w (lstA la3 lc3 ys3 ++ ([row 91 3 kaB kB.length kcB (kvals kB)] ++ (kB.flatMap keA ++ ([row 23 1 la1 ys1.length lc1 (ys1.map encC)] ++ (lstA la4 lc4 ys4 ++ ((row 29 1 oa os.length oc (os.map oV) :: (relA h1 ++ (relA g4 ++ (lstA la lc ysl ++ os.flatMap oA))))))))))) (fun w' hw => ?_) ?_
    · show Sat _ _ _ _ (lstA la3 lc3 ys3 ++ ([row 91 3 kaB kB.length kcB (kvals kB)] ++ (kB.flatMap keA ++ ([row 23 1 la1 ys1.length lc1 (ys1.map encC)] ++ (lstA la4 lc4 ys4 ++ ((row 29 1 oa os.length oc (os.map oV) :: (relA h1 ++ (relA g4 ++ (lstA la lc ysl ++ os.flatMap oA)))))))))) _
      have e1 : row 91 3 kaB kB.length kcB (kvals kB) = row 91 3 kaB (kA.length + kn2.length) kcB (kvals kA ++ kvals kn2) := by rw [hkBl, hkB, kvals_append]
      have e2 : kB.flatMap keA = kA.flatMap keA ++ kn2.flatMap keA := by rw [hkB, List.flatMap_append]
      rw [e1, e2]
      have h1 := hw.pick [[row 91 3 kaB (kA.length + kn2.length) kcB (kvals kA ++ kvals kn2)], [row 23 1 la2 ys2.length lc2 (ys2.map encC)], [row 91 3 xa2 kn2.length xc2 (kvals kn2)], kn2.flatMap keA, kA.flatMap keA, [row 23 1 la1 ys1.length lc1 (ys1.map encC)], lstA la3 lc3 ys3, lstA la4 lc4 ys4, (row 29 1 oa os.length oc (os.map oV) :: (relA h1 ++ (relA g4 ++ (lstA la lc ysl ++ os.flatMap oA))))] [6, 0, 4, 3, 5, 7, 8] 9 rfl (by decide) (by decide)
      exact h1.perm (List.Perm.of_eq (by simp [cat]))
    refine WC.region ?_
    refine WL.val (OV.move rfl) rfl ?_
    refine WL.val (OV.move rfl) rfl ?_
    refine WL.val (OV.move rfl) rfl ?_
    refine WL.val (OV.mulI (a := 4) (b := (t : Int)) rfl rfl (by omega)) rfl ?_
    refine WL.val ((OV.addI (a := 4 * (t : Int)) (b := 2) rfl rfl (by omega)).cast (u := .int .i64 ((4 * t + 2 : Nat) : Int)) (by first | rfl | (congr 1; omega))) rfl ?_
    have hy53 : ∀ y ∈ ys3, y.l.length ≤ 5 := fun y hy => by have := (hal3 y.l (List.mem_map.2 ⟨y, hy, rfl⟩)).1; omega
    refine WL.callTA (ι := Option Addr × Nat × List KE) (vv := fun z => .slice z.1 z.2.2.length z.2.1) (pp := fun z => (∀ k ∈ z.2.2, KE.good k) ∧ z.2.2.length = ys3.length) (lstA la3 lc3 ys3) (AA := fun z => row 23 1 la3 ys3.length lc3 (ys3.map encC) :: row 91 3 z.1 z.2.2.length z.2.1 (kvals z.2.2) :: z.2.2.flatMap keA) rfl (by kernel_rfl) rfl rfl (fun w' hw' hH => (lend_calls (4 * t + 2) (by omega) la3 lc3 ys3 (by omega) hy53 w' hH).mono (fun en w'' ⟨ka, kc, ks, h1, h2, h3, h4⟩ => ⟨(ka, kc, ks), h1, ⟨h2, h3⟩, h4⟩)) ?_
    rintro ⟨xa3, xc3, kn3⟩ hpp
    obtain ⟨hkg3, hkl3⟩ : (∀ k ∈ kn3, KE.good k) ∧ kn3.length = ys3.length := hpp
    refine WL.focus (ow' := row 91 3 kaB kB.length kcB (kvals kB) :: (row 23 1 la3 ys3.length lc3 (ys3.map encC) :: row 91 3 xa3 kn3.length xc3 (kvals kn3) :: (kn3.flatMap keA ++ (kB.flatMap keA ++ ([row 23 1 la1 ys1.length lc1 (ys1.map encC)] ++ (lstA la4 lc4 ys4 ++ ((row 29 1 oa os.length oc (os.map oV) :: (relA h1 ++ (relA g4 ++ (lstA la lc ysl ++ os.flatMap oA))))))))))) (perm_cat [[row 23 1 la3 ys3.length lc3 (ys3.map encC), row 91 3 xa3 kn3.length xc3 (kvals kn3)], kn3.flatMap keA, [row 91 3 kaB kB.length kcB (kvals kB)], kB.flatMap keA ++ ([row 23 1 la1 ys1.length lc1 (ys1.map encC)] ++ (lstA la4 lc4 ys4 ++ ((row 29 1 oa os.length oc (os.map oV) :: (relA h1 ++ (relA g4 ++ (lstA la lc ysl ++ os.flatMap oA)))))))] [2, 0, 1, 3] (by decide) rfl) (WL.append (a2 := xa3) (m2 := kn3.length) (c2 := xc3) (news := kvals kn3) rfl rfl T.apK (fun _ hw => row_src (T := 91) (size := 3) (cap := xc3) (.tail _ (.tail _ (.head _))) hw) (kvals_one _) ⟨by omega, by unfold maxLen; omega⟩ rfl ?_)
    intro kaC kcC
    refine WL.val (OV.assign rfl) rfl ?_
    refine WL.nil ?_
    refine WX.next ?_
    refine WC.seq ?_
    obtain ⟨kC, hkC⟩ : ∃ z, z = kB ++ kn3 := ⟨_, rfl⟩
    have hkCl : kC.length = kB.length + kn3.length := by rw [hkC, List.length_append]
    have hkCg : ∀ z ∈ kC, KE.good z := fun z hz => by rw [hkC] at hz; exact (List.mem_append.1 hz).elim (hkBg z) (hkg3 z)
    refine WC.env (e' := [(5, ptr b5), (7, .int .i64 (wd : Int)), (8, ptr gr.r), (10, ptr gs.r), (12, .slice kaC kC.length kcC), (13, .slice oa os.length oc), (14, .slice la ysl.length lc), (15, .int .i64 (t : Int)), (16, .slice la1 ys1.length lc1), (19, .slice la4 ys4.length lc4)]) ⟨rfl, rfl, rfl, rfl, by rw [hkCl]; rfl, rfl, rfl, rfl, rfl, rfl, trivial⟩ ?_
    refine WC.weak (S' := Sat w (fun _ => False) (fun b => b < w.heap.size) w (lstA la4 lc4 ys4 ++ ([row 91 3 kaC kC.length kcC (kvals kC)] ++ (kC.flatMap keA ++ ([row 23 1 la1 ys1.length lc1 (ys1.map encC)] ++ ((row 29 1 oa os.length oc (os.map oV) :: (relA h1 ++ (relA g4 ++ (lstA la lc ysl ++ os.flatMap oA)))))))))) (fun w' hw => ?_) ?_
    · show Sat _ _ _ _ (lstA la4 lc4 ys4 ++ ([row 91 3 kaC kC.length kcC (kvals kC)] ++ (kC.flatMap keA ++ ([row 23 1 la1 ys1.length lc1 (ys1.map encC)] ++ ((row 29 1 oa os.length oc (os.map oV) :: (relA h1 ++ (relA g4 ++ (lstA la lc ysl ++ os.flatMap oA))))))))) _
      have e1 : row 91 3 kaC kC.length kcC (kvals kC) = row 91 3 kaC (kB.length + kn3.length) kcC (kvals kB ++ kvals kn3) := by rw [hkCl, hkC, kvals_append]
      have e2 : kC.flatMap keA = kB.flatMap keA ++ kn3.flatMap keA := by rw [hkC, List.flatMap_append]
      rw [e1, e2]
      have h1 := hw.pick [[row 91 3 kaC (kB.length + kn3.length) kcC (kvals kB ++ kvals kn3)], [row 23 1 la3 ys3.length lc3 (ys3.map encC)], [row 91 3 xa3 kn3.length xc3 (kvals kn3)], kn3.flatMap keA, kB.flatMap keA, [row 23 1 la1 ys1.length lc1 (ys1.map encC)], lstA la4 lc4 ys4, (row 29 1 oa os.length oc (os.map oV) :: (relA h1 ++ (relA g4 ++ (lstA la lc ysl ++ os.flatMap oA))))] [6, 0, 4, 3, 5, 7] 8 rfl (by decide) (by decide)
      exact h1.perm (List.Perm.of_eq (by simp [cat]))
    refine WC.region ?_
    refine WL.val (OV.move rfl) rfl ?_
    refine WL.val (OV.move rfl) rfl ?_
    refine WL.val (OV.move rfl) rfl ?_
    refine WL.val (OV.mulI (a := 4) (b := (t : Int)) rfl rfl (by omega)) rfl ?_
    refine WL.val ((OV.addI (a := 4 * (t : Int)) (b := 3) rfl rfl (by omega)).cast (u := .int .i64 ((4 * t + 3 : Nat) : Int)) (by first | rfl | (congr 1; omega))) rfl ?_
    have hy54 : ∀ y ∈ ys4, y.l.length ≤ 5 := fun y hy => by have := (hal4 y.l (List.mem_map.2 ⟨y, hy, rfl⟩)).1; omega
    refine WL.callTA (ι := Option Addr × Nat × List KE) (vv := fun z => .slice z.1 z.2.2.length z.2.1) (pp := fun z => (∀ k ∈ z.2.2, KE.good k) ∧ z.2.2.length = ys4.length) (lstA la4 lc4 ys4) (AA := fun z => row 23 1 la4 ys4.length lc4 (ys4.map encC) :: row 91 3 z.1 z.2.2.length z.2.1 (kvals z.2.2) :: z.2.2.flatMap keA) rfl (by kernel_rfl) rfl rfl (fun w' hw' hH => (lend_calls (4 * t + 3) (by omega) la4 lc4 ys4 (by omega) hy54 w' hH).mono (fun en w'' ⟨ka, kc, ks, h1, h2, h3, h4⟩ => ⟨(ka, kc, ks), h1, ⟨h2, h3⟩, h4⟩)) ?_
    rintro ⟨xa4, xc4, kn4⟩ hpp
    obtain ⟨hkg4, hkl4⟩ : (∀ k ∈ kn4, KE.good k) ∧ kn4.length = ys4.length := hpp
    refine WL.focus (ow' := row 91 3 kaC kC.length kcC (kvals kC) :: (row 23 1 la4 ys4.length lc4 (ys4.map encC) :: row 91 3 xa4 kn4.length xc4 (kvals kn4) :: (kn4.flatMap keA ++ (kC.flatMap keA ++ ([row 23 1 la1 ys1.length lc1 (ys1.map encC)] ++ ((row 29 1 oa os.length oc (os.map oV) :: (relA h1 ++ (relA g4 ++ (lstA la lc ysl ++ os.flatMap oA)))))))))) (perm_cat [[row 23 1 la4 ys4.length lc4 (ys4.map encC), row 91 3 xa4 kn4.length xc4 (kvals kn4)], kn4.flatMap keA, [row 91 3 kaC kC.length kcC (kvals kC)], kC.flatMap keA ++ ([row 23 1 la1 ys1.length lc1 (ys1.map encC)] ++ ((row 29 1 oa os.length oc (os.map oV) :: (relA h1 ++ (relA g4 ++ (lstA la lc ysl ++ os.flatMap oA))))))] [2, 0, 1, 3] (by decide) rfl) (WL.append (a2 := xa4) (m2 := kn4.length) (c2 := xc4) (news := kvals kn4) rfl rfl T.apK (fun _ hw => row_src (T := 91) (size := 3) (cap := xc4) (.tail _ (.tail _ (.head _))) hw) (kvals_one _) ⟨by omega, by unfold maxLen; omega⟩ rfl ?_)
    intro kaD kcD
    refine WL.val (OV.assign rfl) rfl ?_
    refine WL.nil ?_
    refine WX.next ?_
    refine WC.seq ?_
    refine WC.seq ?_
    obtain ⟨kD, hkD⟩ : ∃ z, z = kC ++ kn4 := ⟨_, rfl⟩
    have hkDl : kD.length = kC.length + kn4.length := by rw [hkD, List.length_append]
    have hkDg : ∀ z ∈ kD, KE.good z := fun z hz => by rw [hkD] at hz; exact (List.mem_append.1 hz).elim (hkCg z) (hkg4 z)
    refine WC.env (e' := [(5, ptr b5), (7, .int .i64 (wd : Int)), (8, ptr gr.r), (10, ptr gs.r), (12, .slice kaD kD.length kcD), (13, .slice oa os.length oc), (14, .slice la ysl.length lc), (15, .int .i64 (t : Int)), (16, .slice la1 ys1.length lc1)]) ⟨rfl, rfl, rfl, rfl, by rw [hkDl]; rfl, rfl, rfl, rfl, rfl, trivial⟩ ?_
    refine WC.weak (S' := Sat w (fun _ => False) (fun b => b < w.heap.size) w ([row 91 3 kaD kD.length kcD (kvals kD)] ++ (kD.flatMap keA ++ ([row 23 1 la1 ys1.length lc1 (ys1.map encC)] ++ ((row 29 1 oa os.length oc (os.map oV) :: (relA h1 ++ (relA g4 ++ (lstA la lc ysl ++ os.flatMap oA))))))))) (fun w' hw => ?_) ?_
    · show Sat _ _ _ _ ([row 91 3 kaD kD.length kcD (kvals kD)] ++ (kD.flatMap keA ++ ([row 23 1 la1 ys1.length lc1 (ys1.map encC)] ++ ((row 29 1 oa os.length oc (os.map oV) :: (relA h1 ++ (relA g4 ++ (lstA la lc ysl ++ os.flatMap oA)))))))) _
      have e1 : row 91 3 kaD kD.length kcD (kvals kD) = row 91 3 kaD (kC.length + kn4.length) kcD (kvals kC ++ kvals kn4) := by rw [hkDl, hkD, kvals_append]
      have e2 : kD.flatMap keA = kC.flatMap keA ++ kn4.flatMap keA := by rw [hkD, List.flatMap_append]
      rw [e1, e2]
      have h1 := hw.pick [[row 91 3 kaD (kC.length + kn4.length) kcD (kvals kC ++ kvals kn4)], [row 23 1 la4 ys4.length lc4 (ys4.map encC)], [row 91 3 xa4 kn4.length xc4 (kvals kn4)], kn4.flatMap keA, kC.flatMap keA, [row 23 1 la1 ys1.length lc1 (ys1.map encC)], (row 29 1 oa os.length oc (os.map oV) :: (relA h1 ++ (relA g4 ++ (lstA la lc ysl ++ os.flatMap oA))))] [0, 4, 3, 5, 6] 7 rfl (by decide) (by decide)
      exact h1.perm (List.Perm.of_eq (by simp [cat]))
    refine WC.focus (ow' := row 23 1 la1 ys1.length lc1 (ys1.map encC) :: (row 91 3 kaD kD.length kcD (kvals kD) :: (kD.flatMap keA ++ (row 29 1 oa os.length oc (os.map oV) :: (relA h1 ++ (relA g4 ++ (lstA la lc ysl ++ os.flatMap oA))))))) (perm_cat [[row 91 3 kaD kD.length kcD (kvals kD)], kD.flatMap keA, [row 23 1 la1 ys1.length lc1 (ys1.map encC)], (row 29 1 oa os.length oc (os.map oV) :: (relA h1 ++ (relA g4 ++ (lstA la lc ysl ++ os.flatMap oA))))] [2, 0, 1, 3] (by decide) rfl) ?_
    refine WC.region ?_
    refine WL.val (OV.assign rfl) rfl ?_
    refine WL.nil ?_
    refine WX.next ?_
    refine WC.block ?_
    refine WC.weak (S' := fun w' => (0 < ys1.length → ∃ q, la1 = some ⟨q, 0, none⟩) ∧ Sat w (fun _ => False) (fun b => b < w.heap.size) w (row 23 1 la1 ys1.length lc1 (ys1.map encC) :: (row 91 3 kaD kD.length kcD (kvals kD) :: (kD.flatMap keA ++ (row 29 1 oa os.length oc (os.map oV) :: (relA h1 ++ (relA g4 ++ (lstA la lc ysl ++ os.flatMap oA))))))) w') (fun w' hw => ⟨fun hp => row_addr (hw.it _ (.head _)) hp, hw⟩) ?_
    refine WC.pure (fun hla1 => ?_)
    refine WC.loop1 (fun (i : Nat) => [(5, ptr b5), (7, .int .i64 (wd : Int)), (8, ptr gr.r), (10, ptr gs.r), (12, .slice kaD kD.length kcD), (13, .slice oa os.length oc), (14, .slice la ysl.length lc), (15, .int .i64 (t : Int)), (16, .slice la1 ys1.length lc1), (21, .int .i64 (i : Int))])
        (fun i w' => i ≤ ys1.length ∧ Sat w (fun _ => False) (fun b => b < w.heap.size) w (row 23 1 la1 ys1.length lc1 (List.replicate i (Value.slice none 0 0) ++ (ys1.map encC).drop i) :: (row 91 3 kaD kD.length kcD (kvals kD) :: (kD.flatMap keA ++ (row 29 1 oa os.length oc (os.map oV) :: (relA h1 ++ (relA g4 ++ (lstA la lc ysl ++ os.flatMap oA))))))) w')
        (fun i => ys1.length - i) 0 ⟨rfl, rfl, rfl, rfl, rfl, rfl, rfl, rfl, rfl, rfl, trivial⟩ (fun w' hw => ⟨by omega, hw⟩) ?_
    intro i
    refine WC.pure (fun hi2 => ?_)
    refine WC.seq ?_
    refine WC.seq ?_
    refine WC.region ?_
    refine WL.val (OV.move rfl) rfl ?_
    refine WL.val (OV.move rfl) rfl ?_
    first
    | (refine WL.val (OV.lenSlice rfl T.u29) rfl ?_)
    | (refine WL.val (OV.lenStr rfl T.u29) rfl ?_)
    refine WL.val (OV.lss rfl rfl) rfl ?_
    refine WL.nil ?_
    refine WX.next ?_
    refine WC.cond rfl (fun c118 => ?_) (fun c118 => ?_)
    · try simp only [decide_eq_true_eq, decide_eq_false_iff_not, Bool.not_eq_true', Bool.not_eq_false'] at c118
      refine WC.skip ?_
      refine WX.next ?_
      refine WC.seq ?_
      refine WC.block ?_
      refine WC.region ?_
      refine WL.val (OV.move rfl) rfl ?_
      refine WL.val (OV.move rfl) rfl ?_
      have hil : i < ys1.length := by omega
      obtain ⟨q7, hla1q⟩ := hla1 (by omega)
      refine WL.val ((OV.indexSliceA (a := ⟨q7, 0, none⟩) (i := i) (show _ = some (Value.slice (some ⟨q7, 0, none⟩) ys1.length lc1) by rw [← hla1q]; rfl) rfl T.u29 T.z23 (by omega)).cast (u := .pointer (some ⟨q7, i, none⟩)) (by rw [add_off, Nat.zero_add])) rfl ?_
      refine WL.storeRow (o := i) rfl hla1q rfl rfl T.z23 (by simp; omega) ?_
      rw [nils_set (by simpa using hil)]
      refine WL.nil ?_
      refine WX.block_normal ?_
      refine WX.next ?_
      refine WC.region ?_
      refine WL.val (OV.move rfl) rfl ?_
      first
      | (refine WL.val (OV.addI rfl rfl (by omega)) rfl ?_)
      | (refine WL.val (OV.add rfl rfl) rfl ?_)
      refine WL.val (OV.assign rfl) rfl ?_
      refine WL.nil ?_
      exact WX.round1 (i + 1) ⟨rfl, rfl, rfl, rfl, rfl, rfl, rfl, rfl, rfl, rfl, trivial⟩ (fun w' hw => ⟨by omega, hw⟩) (by show ys1.length - (i + 1) < ys1.length - i; omega)
    · try simp only [decide_eq_true_eq, decide_eq_false_iff_not, Bool.not_eq_true', Bool.not_eq_false'] at c118
      refine WC.exit ?_
      refine WX.then_exit ?_
      refine WX.then_exit ?_
      refine WX.block_hit ?_
      refine WX.next ?_
      refine WC.seq ?_
      have hie : i = ys1.length := by omega
      subst hie
      rw [show (ys1.map encC).drop ys1.length = [] from List.drop_eq_nil_of_le (by simp), List.append_nil]
      refine WC.region ?_
      refine WL.val (OV.move rfl) rfl ?_
      refine WL.val (OV.move rfl) rfl ?_
      refine WL.val (OV.move rfl) rfl ?_
      refine WL.buildSlice1 T.u23 T.z3 T.zr3 rfl rfl rfl ?_
      intro b127
      refine WL.buildSlice1 T.u29 T.z23 T.zr23 rfl rfl rfl ?_
      intro b128
      refine WL.focus (ow' := row 23 1 la1 ys1.length lc1 (List.replicate ys1.length (Value.slice none 0 0)) :: (own b128 (.cells [.slice (some ⟨b127, 0, none⟩) 1 1].toArray 23 (0, 0)) :: own b127 (.cells [.int .i64 (t : Int)].toArray 3 (0, 0)) :: (row 91 3 kaD kD.length kcD (kvals kD) :: (kD.flatMap keA ++ (row 29 1 oa os.length oc (os.map oV) :: (relA h1 ++ (relA g4 ++ (lstA la lc ysl ++ os.flatMap oA)))))))) (perm_cat [[own b128 (.cells [.slice (some ⟨b127, 0, none⟩) 1 1].toArray 23 (0, 0)), own b127 (.cells [.int .i64 (t : Int)].toArray 3 (0, 0))], [row 23 1 la1 ys1.length lc1 (List.replicate ys1.length (Value.slice none 0 0))], row 91 3 kaD kD.length kcD (kvals kD) :: (kD.flatMap keA ++ (row 29 1 oa os.length oc (os.map oV) :: (relA h1 ++ (relA g4 ++ (lstA la lc ysl ++ os.flatMap oA)))))] [1, 0, 2] (by decide) rfl) (WL.append (news := [.slice (some ⟨b127, 0, none⟩) 1 1]) rfl rfl T.apR (fun _ _ => own_src (.tail _ (.head _)) rfl) (by simp [Value.oneCell']) ⟨by omega, by unfold maxLen; omega⟩ rfl ?_)
      intro a129 c129
      refine WL.buildSlice1 (v := oV (OE.mk a129 c129 ys1.length b127 t)) T.u49 T.z29 T.zr29 rfl rfl rfl ?_
      intro b130
      refine WL.focus (ow' := row 29 1 oa os.length oc (os.map oV) :: (own b130 (.cells [oV (OE.mk a129 c129 ys1.length b127 t)].toArray 29 (0, 0)) :: row 23 1 a129 (ys1.length + 1) c129 (List.replicate ys1.length (Value.slice none 0 0) ++ [Value.slice (some ⟨b127, 0, none⟩) 1 1]) :: own b128 (.cells [.slice (some ⟨b127, 0, none⟩) 1 1].toArray 23 (0, 0)) :: own b127 (.cells [.int .i64 (t : Int)].toArray 3 (0, 0)) :: row 91 3 kaD kD.length kcD (kvals kD) :: (kD.flatMap keA ++ (relA h1 ++ (relA g4 ++ (lstA la lc ysl ++ os.flatMap oA)))))) (perm_cat [[own b130 (.cells [oV (OE.mk a129 c129 ys1.length b127 t)].toArray 29 (0, 0)), row 23 1 a129 (ys1.length + 1) c129 (List.replicate ys1.length (Value.slice none 0 0) ++ [Value.slice (some ⟨b127, 0, none⟩) 1 1]), own b128 (.cells [.slice (some ⟨b127, 0, none⟩) 1 1].toArray 23 (0, 0)), own b127 (.cells [.int .i64 (t : Int)].toArray 3 (0, 0)), row 91 3 kaD kD.length kcD (kvals kD)], kD.flatMap keA, [row 29 1 oa os.length oc (os.map oV)], (relA h1 ++ (relA g4 ++ (lstA la lc ysl ++ os.flatMap oA)))] [2, 0, 1, 3] (by decide) rfl) (WL.append (news := [oV (OE.mk a129 c129 ys1.length b127 t)]) rfl rfl T.apO (fun _ _ => own_src (.tail _ (.head _)) rfl) (by simp [Value.oneCell', oV]) ⟨by omega, by unfold maxLen; omega⟩ rfl ?_)
      intro oaN ocN
      refine WL.val (OV.assign rfl) rfl ?_
      refine WL.nil ?_
      refine WX.next ?_
      refine WC.seq ?_
      refine WC.seq ?_
      refine WC.weak (S' := Sat w (fun _ => False) (fun b => b < w.heap.size) w (relA g4 ++ (relA h1 ++ (row 91 3 kaD kD.length kcD (kvals kD) :: row 29 1 oaN (os.length + 1) ocN (os.map oV ++ [oV (OE.mk a129 c129 ys1.length b127 t)]) :: (lstA la lc ysl ++ (kD.flatMap keA ++ (os.flatMap oA ++ oA (OE.mk a129 c129 ys1.length b127 t)))))))) (fun w' hw => (hw.pick [[row 29 1 oaN (os.length + 1) ocN (os.map oV ++ [oV (OE.mk a129 c129 ys1.length b127 t)])], [own b130 (.cells [oV (OE.mk a129 c129 ys1.length b127 t)].toArray 29 (0, 0))], [row 23 1 a129 (ys1.length + 1) c129 (List.replicate ys1.length (Value.slice none 0 0) ++ [Value.slice (some ⟨b127, 0, none⟩) 1 1])], [own b128 (.cells [.slice (some ⟨b127, 0, none⟩) 1 1].toArray 23 (0, 0))], [own b127 (.cells [.int .i64 (t : Int)].toArray 3 (0, 0))], [row 91 3 kaD kD.length kcD (kvals kD)], kD.flatMap keA, relA h1, relA g4, lstA la lc ysl, os.flatMap oA] [8, 7, 5, 0, 9, 6, 10, 2, 4] 11 rfl (by decide) (by decide)).perm (List.Perm.of_eq (by simp [cat, oA, oVs]))) ?_
      refine WC.region ?_
      refine WL.val (OV.move rfl) rfl ?_
      refine WL.val (OV.move rfl) rfl ?_
      first
      | (refine WL.val (OV.lenSlice rfl T.u29) rfl ?_)
      | (refine WL.val (OV.lenStr rfl T.u29) rfl ?_)
      refine WL.val (OV.lss rfl rfl) rfl ?_
      refine WL.nil ?_
      refine WX.next ?_
      refine WC.cond rfl (fun c135 => ?_) (fun c135 => ?_)
      · try simp only [decide_eq_true_eq, decide_eq_false_iff_not, Bool.not_eq_true', Bool.not_eq_false'] at c135
        refine WC.seq ?_
        refine WC.region ?_
        refine WL.val (OV.move rfl) rfl ?_
        refine WL.val (OV.move rfl) rfl ?_
        refine WL.val (OV.move rfl) rfl ?_
        obtain ⟨y, hy, hym, hyl, hyi, hyn2⟩ := col_wide hysl hr3.i64 (k := t) (by omega)
        have hyn : y.l.length ≤ 1099511627776 := by omega
        obtain ⟨q6, hq6⟩ := hla (by omega)
        refine WL.val (OV.indexSliceA (a := ⟨q6, 0, none⟩) (i := t) (show _ = some (Value.slice (some ⟨q6, 0, none⟩) ysl.length lc) by rw [← hq6]; rfl) rfl T.u29 T.z23 (by omega)) rfl ?_
        refine WL.val (OV.load1 (v := encC y) rfl T.u23 rfl (fun _ hw => row_cellsE hw hq6 (List.mem_append_right _ (List.mem_append_right _ (.tail _ (.tail _ (List.mem_append_left _ (.head _)))))) t _ (by rw [List.getElem?_map, hy]; rfl))) rfl ?_
        have hi64 := hyi
        have g4r : g4.r = gr.r := g4le.r.trans (g3le.r.trans (g2le.r.trans g1le.r))
        refine WL.callTA (ι := RelG) (vs := [ptr g4.r, encC y]) (vv := fun _ => .tuple #[.bool (addV g4.width (rp g4) y.l), .int .i64 (addE g4.width y.l)]) (pp := fun qq => rp qq = addRP g4.width (rp g4) y.l ∧ RelOK qq ∧ RelLe g4 qq) (relA g4) (AA := fun qq => relA qq) rfl (by kernel_rfl) (by rw [g4r]; rfl) rfl (fun w' hw' hH => (add_calls g4 g4ok y.l y.a y.l.length y.c hi64 (by omega) (by omega) w' (RI.of_row (c := y.c) hw' (List.mem_append_right _ (List.mem_append_right _ (.tail _ (.tail _ (List.mem_append_left _ (colmem hym))))))) (fun b hb _ => Sat.sepO hw' (List.mem_append_right _ (.tail _ (.tail _ (List.mem_append_left _ (colmem hym))))) ⟨b, hb, rfl⟩) hH).mono (fun en w'' ⟨h1, g', h2, h3, h4, h5⟩ => ⟨g', h1, ⟨h2, h3, h4⟩, h5⟩)) ?_
        rintro g141 hpp
        obtain ⟨hrp141, ok141, le141⟩ : rp g141 = addRP g4.width (rp g4) y.l ∧ RelOK g141 ∧ RelLe g4 g141 := hpp
        refine WL.nil ?_
        refine WX.next ?_
        refine WC.region ?_
        refine WL.val (OV.move rfl) rfl ?_
        refine WL.val (OV.move rfl) rfl ?_
        refine WL.val (OV.move rfl) rfl ?_
        refine WL.val (OV.indexSliceA (a := ⟨q6, 0, none⟩) (i := t) (show _ = some (Value.slice (some ⟨q6, 0, none⟩) ysl.length lc) by rw [← hq6]; rfl) rfl T.u29 T.z23 (by omega)) rfl ?_
        refine WL.val (OV.load1 (v := encC y) rfl T.u23 rfl (fun _ hw => row_cellsE hw hq6 (List.mem_append_right _ (List.mem_append_right _ (.tail _ (.tail _ (List.mem_append_left _ (.head _)))))) t _ (by rw [List.getElem?_map, hy]; rfl))) rfl ?_
        have h1r : h1.r = gs.r := h1le.r
        refine WL.focus (ow' := relA h1 ++ (relA g141 ++ (row 91 3 kaD kD.length kcD (kvals kD) :: row 29 1 oaN (os.length + 1) ocN (os.map oV ++ [oV (OE.mk a129 c129 ys1.length b127 t)]) :: (lstA la lc ysl ++ (kD.flatMap keA ++ (os.flatMap oA ++ oA (OE.mk a129 c129 ys1.length b127 t))))))) (perm_cat [relA g141, relA h1, (row 91 3 kaD kD.length kcD (kvals kD) :: row 29 1 oaN (os.length + 1) ocN (os.map oV ++ [oV (OE.mk a129 c129 ys1.length b127 t)]) :: (lstA la lc ysl ++ (kD.flatMap keA ++ (os.flatMap oA ++ oA (OE.mk a129 c129 ys1.length b127 t)))))] [1, 0, 2] (by decide) rfl) ?_
        refine WL.callTA (ι := RelG) (vs := [ptr h1.r, encC y]) (vv := fun _ => .tuple #[.bool (addV h1.width (rp h1) y.l), .int .i64 (addE h1.width y.l)]) (pp := fun qq => rp qq = addRP h1.width (rp h1) y.l ∧ RelOK qq ∧ RelLe h1 qq) (relA h1) (AA := fun qq => relA qq) rfl (by kernel_rfl) (by rw [h1r]; rfl) rfl (fun w' hw' hH => (add_calls h1 h1ok y.l y.a y.l.length y.c hi64 (by omega) (by omega) w' (RI.of_row (c := y.c) hw' (List.mem_append_right _ (List.mem_append_right _ (.tail _ (.tail _ (List.mem_append_left _ (colmem hym))))))) (fun b hb _ => Sat.sepO hw' (List.mem_append_right _ (.tail _ (.tail _ (List.mem_append_left _ (colmem hym))))) ⟨b, hb, rfl⟩) hH).mono (fun en w'' ⟨h1, g', h2, h3, h4, h5⟩ => ⟨g', h1, ⟨h2, h3, h4⟩, h5⟩)) ?_
        rintro g147 hpp
        obtain ⟨hrp147, ok147, le147⟩ : rp g147 = addRP h1.width (rp h1) y.l ∧ RelOK g147 ∧ RelLe h1 g147 := hpp
        refine WL.nil ?_
        refine WX.next ?_
        refine WC.seq ?_
        obtain ⟨qa, hqa, qaok, qaw, hqar, hqap⟩ : ∃ z, z = g141 ∧ RelOK z ∧ z.width = wd ∧ z.r = gr.r ∧ z.es.length ≤ 1048576 + t + 1 := ⟨_, rfl, ok141, le141.width.trans (g4le.width.trans (g3le.width.trans (g2le.width.trans (g1le.width.trans hrw)))), le141.r.trans g4r, by have q1 := es_len hrp141; have q2 := addRP_len g4.width (rp g4) y.l; rw [rp_len] at q2; omega⟩
        obtain ⟨pa, hpa, paok, paw, hpar, hpap⟩ : ∃ z, z = g147 ∧ RelOK z ∧ z.width = wd ∧ z.r = gs.r ∧ rp qa = rp z := ⟨_, rfl, ok147, le147.width.trans (h1le.width.trans hsw), le147.r.trans h1r, by rw [hqa, hrp141, hrp147, e5, e6, hrp, g4w, h1w]⟩
        refine WC.focus (ow' := relA qa ++ (relA pa ++ (row 91 3 kaD kD.length kcD (kvals kD) :: row 29 1 oaN (os.length + 1) ocN (os.map oV ++ [oV (OE.mk a129 c129 ys1.length b127 t)]) :: (lstA la lc ysl ++ (kD.flatMap keA ++ (os.flatMap oA ++ oA (OE.mk a129 c129 ys1.length b127 t))))))) (by rw [hqa, hpa]; exact perm_cat [relA g147, relA g141, (row 91 3 kaD kD.length kcD (kvals kD) :: row 29 1 oaN (os.length + 1) ocN (os.map oV ++ [oV (OE.mk a129 c129 ys1.length b127 t)]) :: (lstA la lc ysl ++ (kD.flatMap keA ++ (os.flatMap oA ++ oA (OE.mk a129 c129 ys1.length b127 t)))))] [1, 0, 2] (by decide) rfl) ?_
        refine WC.region ?_
        refine WL.val (OV.move rfl) rfl ?_
        refine WL.val (OV.eql rfl rfl) rfl ?_
        refine WL.nil ?_
        refine WX.next ?_
        refine WC.cond rfl (fun c149 => ?_) (fun c149 => ?_)
        · try simp only [decide_eq_true_eq, decide_eq_false_iff_not, Bool.not_eq_true', Bool.not_eq_false'] at c149
          refine WC.seq ?_
          refine WC.region ?_
          refine WL.val (OV.move rfl) rfl ?_
          refine WL.callTA (ι := Unit) (vs := [ptr qa.r]) (vv := fun _ => .int .i64 (qa.ns.length : Int)) (pp := fun _ => True) (relA qa) (AA := fun _ => relA (turnG qa)) rfl (by kernel_rfl) (by rw [hqar]; rfl) rfl (fun w' hw' hH => (turn_calls qa qaok w' hH).mono (fun en w'' ⟨h1, h2⟩ => ⟨(), h1, trivial, h2⟩)) ?_
          rintro _ _
          refine WL.nil ?_
          refine WX.next ?_
          refine WC.region ?_
          refine WL.val (OV.move rfl) rfl ?_
          refine WL.focus (ow' := relA pa ++ (relA (turnG qa) ++ (row 91 3 kaD kD.length kcD (kvals kD) :: row 29 1 oaN (os.length + 1) ocN (os.map oV ++ [oV (OE.mk a129 c129 ys1.length b127 t)]) :: (lstA la lc ysl ++ (kD.flatMap keA ++ (os.flatMap oA ++ oA (OE.mk a129 c129 ys1.length b127 t))))))) (perm_cat [relA (turnG qa), relA pa, (row 91 3 kaD kD.length kcD (kvals kD) :: row 29 1 oaN (os.length + 1) ocN (os.map oV ++ [oV (OE.mk a129 c129 ys1.length b127 t)]) :: (lstA la lc ysl ++ (kD.flatMap keA ++ (os.flatMap oA ++ oA (OE.mk a129 c129 ys1.length b127 t)))))] [1, 0, 2] (by decide) rfl) ?_
          refine WL.callTA (ι := Unit) (vs := [ptr pa.r]) (vv := fun _ => .int .i64 (pa.ns.length : Int)) (pp := fun _ => True) (relA pa) (AA := fun _ => relA (turnG pa)) rfl (by kernel_rfl) (by rw [hpar]; rfl) rfl (fun w' hw' hH => (turn_calls pa paok w' hH).mono (fun en w'' ⟨h1, h2⟩ => ⟨(), h1, trivial, h2⟩)) ?_
          rintro _ _
          refine WL.nil ?_
          refine WX.block_normal ?_
          refine WX.next ?_
          refine WC.region ?_
          refine WL.val (OV.move rfl) rfl ?_
          first
          | (refine WL.val (OV.addI rfl rfl (by omega)) rfl ?_)
          | (refine WL.val (OV.add rfl rfl) rfl ?_)
          refine WL.val (OV.assign rfl) rfl ?_
          refine WL.nil ?_
          have hkDl2 : kD.length ≤ (t + 1) * 4194400 := by omega
          exact WX.round7 (t + 1) (turnG qa, turnG pa) kaD kcD kD (oaN, ocN) (os ++ [(OE.mk a129 c129 ys1.length b127 t)]) ⟨rfl, rfl, by rw [show (turnG qa).r = gr.r from hqar]; rfl, by rw [show (turnG pa).r = gs.r from hpar]; rfl, rfl, by show _ = some (Value.slice oaN (os ++ [(OE.mk a129 c129 ys1.length b127 t)]).length ocN); rw [List.length_append]; rfl, rfl, rfl, trivial⟩ (fun w' hw => ⟨⟨by omega, turnG_ok qaok, qaw, turnG_ok paok, paw, by rw [rp_turn, rp_turn, hpap], by show (turnG qa).es.length ≤ _; rw [show (turnG qa).es.length = qa.es.length by simp [turnG]]; omega, hkDg, hkDl2, by rw [List.length_append, hosl]; rfl, fun j o ho => by
            by_cases hj : j < os.length
            · rw [List.getElem?_append_left hj] at ho
              exact hos j o ho
            · have hjl := (List.getElem?_eq_some_iff.1 ho).1
              rw [List.length_append, List.length_singleton] at hjl
              have hje : j = os.length := by omega
              subst hje
              rw [List.getElem?_append_right (Nat.le_refl _), Nat.sub_self] at ho
              simp only [List.getElem?_cons_zero, Option.some.injEq] at ho
              subst ho
              exact ⟨by show t = os.length; omega, by show ys1.length ≤ _; omega⟩⟩, by
            have e8 : row 29 1 oaN (os ++ [(OE.mk a129 c129 ys1.length b127 t)]).length ocN ((os ++ [(OE.mk a129 c129 ys1.length b127 t)]).map oV) = row 29 1 oaN (os.length + 1) ocN (os.map oV ++ [oV (OE.mk a129 c129 ys1.length b127 t)]) := by rw [List.length_append, List.map_append]; rfl
            have e9 : (os ++ [(OE.mk a129 c129 ys1.length b127 t)]).flatMap oA = os.flatMap oA ++ oA (OE.mk a129 c129 ys1.length b127 t) := by simp
            show Sat _ _ _ _ (relA (turnG qa) ++ (relA (turnG pa) ++ (row 91 3 kaD kD.length kcD (kvals kD) :: row 29 1 oaN (os ++ [(OE.mk a129 c129 ys1.length b127 t)]).length ocN ((os ++ [(OE.mk a129 c129 ys1.length b127 t)]).map oV) :: (lstA la lc ysl ++ (kD.flatMap keA ++ (os ++ [(OE.mk a129 c129 ys1.length b127 t)]).flatMap oA))))) _
            rw [e8, e9]
            exact hw.perm (perm_cat [relA (turnG pa), relA (turnG qa), (row 91 3 kaD kD.length kcD (kvals kD) :: row 29 1 oaN (os.length + 1) ocN (os.map oV ++ [oV (OE.mk a129 c129 ys1.length b127 t)]) :: (lstA la lc ysl ++ (kD.flatMap keA ++ (os.flatMap oA ++ oA (OE.mk a129 c129 ys1.length b127 t)))))] [1, 0, 2] (by decide) rfl)⟩) (by show 4 - (t + 1) < 4 - t; omega)
        · try simp only [decide_eq_true_eq, decide_eq_false_iff_not, Bool.not_eq_true', Bool.not_eq_false'] at c149
          refine WC.skip ?_
          refine WX.block_normal ?_
          refine WX.next ?_
          refine WC.region ?_
          refine WL.val (OV.move rfl) rfl ?_
          first
          | (refine WL.val (OV.addI rfl rfl (by omega)) rfl ?_)
          | (refine WL.val (OV.add rfl rfl) rfl ?_)
          refine WL.val (OV.assign rfl) rfl ?_
          refine WL.nil ?_
          have hkDl2 : kD.length ≤ (t + 1) * 4194400 := by omega
          exact WX.round7 (t + 1) (qa, pa) kaD kcD kD (oaN, ocN) (os ++ [(OE.mk a129 c129 ys1.length b127 t)]) ⟨rfl, rfl, by rw [show (qa).r = gr.r from hqar]; rfl, by rw [show (pa).r = gs.r from hpar]; rfl, rfl, by show _ = some (Value.slice oaN (os ++ [(OE.mk a129 c129 ys1.length b127 t)]).length ocN); rw [List.length_append]; rfl, rfl, rfl, trivial⟩ (fun w' hw => ⟨⟨by omega, qaok, qaw, paok, paw, hpap, by show qa.es.length ≤ _; omega, hkDg, hkDl2, by rw [List.length_append, hosl]; rfl, fun j o ho => by
            by_cases hj : j < os.length
            · rw [List.getElem?_append_left hj] at ho
              exact hos j o ho
            · have hjl := (List.getElem?_eq_some_iff.1 ho).1
              rw [List.length_append, List.length_singleton] at hjl
              have hje : j = os.length := by omega
              subst hje
              rw [List.getElem?_append_right (Nat.le_refl _), Nat.sub_self] at ho
              simp only [List.getElem?_cons_zero, Option.some.injEq] at ho
              subst ho
              exact ⟨by show t = os.length; omega, by show ys1.length ≤ _; omega⟩⟩, by
            have e8 : row 29 1 oaN (os ++ [(OE.mk a129 c129 ys1.length b127 t)]).length ocN ((os ++ [(OE.mk a129 c129 ys1.length b127 t)]).map oV) = row 29 1 oaN (os.length + 1) ocN (os.map oV ++ [oV (OE.mk a129 c129 ys1.length b127 t)]) := by rw [List.length_append, List.map_append]; rfl
            have e9 : (os ++ [(OE.mk a129 c129 ys1.length b127 t)]).flatMap oA = os.flatMap oA ++ oA (OE.mk a129 c129 ys1.length b127 t) := by simp
            show Sat _ _ _ _ (relA (qa) ++ (relA (pa) ++ (row 91 3 kaD kD.length kcD (kvals kD) :: row 29 1 oaN (os ++ [(OE.mk a129 c129 ys1.length b127 t)]).length ocN ((os ++ [(OE.mk a129 c129 ys1.length b127 t)]).map oV) :: (lstA la lc ysl ++ (kD.flatMap keA ++ (os ++ [(OE.mk a129 c129 ys1.length b127 t)]).flatMap oA))))) _
            rw [e8, e9]
            exact hw⟩) (by show 4 - (t + 1) < 4 - t; omega)
      · try simp only [decide_eq_true_eq, decide_eq_false_iff_not, Bool.not_eq_true', Bool.not_eq_false'] at c135
        refine WC.skip ?_
        refine WX.next ?_
        refine WC.seq ?_
        obtain ⟨qa, hqa, qaok, qaw, hqar, hqap⟩ : ∃ z, z = g4 ∧ RelOK z ∧ z.width = wd ∧ z.r = gr.r ∧ z.es.length ≤ 1048576 + t + 1 := ⟨_, rfl, g4ok, g4le.width.trans (g3le.width.trans (g2le.width.trans (g1le.width.trans hrw))), g4le.r.trans (g3le.r.trans (g2le.r.trans g1le.r)), by omega⟩
        obtain ⟨pa, hpa, paok, paw, hpar, hpap⟩ : ∃ z, z = h1 ∧ RelOK z ∧ z.width = wd ∧ z.r = gs.r ∧ rp qa = rp z := ⟨_, rfl, h1ok, h1le.width.trans hsw, h1le.r, by rw [hqa, e5, e6, hrp]⟩
        rw [show relA g4 = relA qa from by rw [hqa], show relA h1 = relA pa from by rw [hpa]]
        refine WC.region ?_
        refine WL.val (OV.move rfl) rfl ?_
        refine WL.val (OV.eql rfl rfl) rfl ?_
        refine WL.nil ?_
        refine WX.next ?_
        refine WC.cond rfl (fun c149 => ?_) (fun c149 => ?_)
        · try simp only [decide_eq_true_eq, decide_eq_false_iff_not, Bool.not_eq_true', Bool.not_eq_false'] at c149
          refine WC.seq ?_
          refine WC.region ?_
          refine WL.val (OV.move rfl) rfl ?_
          refine WL.callTA (ι := Unit) (vs := [ptr qa.r]) (vv := fun _ => .int .i64 (qa.ns.length : Int)) (pp := fun _ => True) (relA qa) (AA := fun _ => relA (turnG qa)) rfl (by kernel_rfl) (by rw [hqar]; rfl) rfl (fun w' hw' hH => (turn_calls qa qaok w' hH).mono (fun en w'' ⟨h1, h2⟩ => ⟨(), h1, trivial, h2⟩)) ?_
          rintro _ _
          refine WL.nil ?_
          refine WX.next ?_
          refine WC.region ?_
          refine WL.val (OV.move rfl) rfl ?_
          refine WL.focus (ow' := relA pa ++ (relA (turnG qa) ++ (row 91 3 kaD kD.length kcD (kvals kD) :: row 29 1 oaN (os.length + 1) ocN (os.map oV ++ [oV (OE.mk a129 c129 ys1.length b127 t)]) :: (lstA la lc ysl ++ (kD.flatMap keA ++ (os.flatMap oA ++ oA (OE.mk a129 c129 ys1.length b127 t))))))) (perm_cat [relA (turnG qa), relA pa, (row 91 3 kaD kD.length kcD (kvals kD) :: row 29 1 oaN (os.length + 1) ocN (os.map oV ++ [oV (OE.mk a129 c129 ys1.length b127 t)]) :: (lstA la lc ysl ++ (kD.flatMap keA ++ (os.flatMap oA ++ oA (OE.mk a129 c129 ys1.length b127 t)))))] [1, 0, 2] (by decide) rfl) ?_
          refine WL.callTA (ι := Unit) (vs := [ptr pa.r]) (vv := fun _ => .int .i64 (pa.ns.length : Int)) (pp := fun _ => True) (relA pa) (AA := fun _ => relA (turnG pa)) rfl (by kernel_rfl) (by rw [hpar]; rfl) rfl (fun w' hw' hH => (turn_calls pa paok w' hH).mono (fun en w'' ⟨h1, h2⟩ => ⟨(), h1, trivial, h2⟩)) ?_
          rintro _ _
          refine WL.nil ?_
          refine WX.block_normal ?_
          refine WX.next ?_
          refine WC.region ?_
          refine WL.val (OV.move rfl) rfl ?_
          first
          | (refine WL.val (OV.addI rfl rfl (by omega)) rfl ?_)
          | (refine WL.val (OV.add rfl rfl) rfl ?_)
          refine WL.val (OV.assign rfl) rfl ?_
          refine WL.nil ?_
          have hkDl2 : kD.length ≤ (t + 1) * 4194400 := by omega
          exact WX.round7 (t + 1) (turnG qa, turnG pa) kaD kcD kD (oaN, ocN) (os ++ [(OE.mk a129 c129 ys1.length b127 t)]) ⟨rfl, rfl, by rw [show (turnG qa).r = gr.r from hqar]; rfl, by rw [show (turnG pa).r = gs.r from hpar]; rfl, rfl, by show _ = some (Value.slice oaN (os ++ [(OE.mk a129 c129 ys1.length b127 t)]).length ocN); rw [List.length_append]; rfl, rfl, rfl, trivial⟩ (fun w' hw => ⟨⟨by omega, turnG_ok qaok, qaw, turnG_ok paok, paw, by rw [rp_turn, rp_turn, hpap], by show (turnG qa).es.length ≤ _; rw [show (turnG qa).es.length = qa.es.length by simp [turnG]]; omega, hkDg, hkDl2, by rw [List.length_append, hosl]; rfl, fun j o ho => by
            by_cases hj : j < os.length
            · rw [List.getElem?_append_left hj] at ho
              exact hos j o ho
            · have hjl := (List.getElem?_eq_some_iff.1 ho).1
              rw [List.length_append, List.length_singleton] at hjl
              have hje : j = os.length := by omega
              subst hje
              rw [List.getElem?_append_right (Nat.le_refl _), Nat.sub_self] at ho
              simp only [List.getElem?_cons_zero, Option.some.injEq] at ho
              subst ho
              exact ⟨by show t = os.length; omega, by show ys1.length ≤ _; omega⟩⟩, by
            have e8 : row 29 1 oaN (os ++ [(OE.mk a129 c129 ys1.length b127 t)]).length ocN ((os ++ [(OE.mk a129 c129 ys1.length b127 t)]).map oV) = row 29 1 oaN (os.length + 1) ocN (os.map oV ++ [oV (OE.mk a129 c129 ys1.length b127 t)]) := by rw [List.length_append, List.map_append]; rfl
            have e9 : (os ++ [(OE.mk a129 c129 ys1.length b127 t)]).flatMap oA = os.flatMap oA ++ oA (OE.mk a129 c129 ys1.length b127 t) := by simp
            show Sat _ _ _ _ (relA (turnG qa) ++ (relA (turnG pa) ++ (row 91 3 kaD kD.length kcD (kvals kD) :: row 29 1 oaN (os ++ [(OE.mk a129 c129 ys1.length b127 t)]).length ocN ((os ++ [(OE.mk a129 c129 ys1.length b127 t)]).map oV) :: (lstA la lc ysl ++ (kD.flatMap keA ++ (os ++ [(OE.mk a129 c129 ys1.length b127 t)]).flatMap oA))))) _
            rw [e8, e9]
            exact hw.perm (perm_cat [relA (turnG pa), relA (turnG qa), (row 91 3 kaD kD.length kcD (kvals kD) :: row 29 1 oaN (os.length + 1) ocN (os.map oV ++ [oV (OE.mk a129 c129 ys1.length b127 t)]) :: (lstA la lc ysl ++ (kD.flatMap keA ++ (os.flatMap oA ++ oA (OE.mk a129 c129 ys1.length b127 t)))))] [1, 0, 2] (by decide) rfl)⟩) (by show 4 - (t + 1) < 4 - t; omega)
        · try simp only [decide_eq_true_eq, decide_eq_false_iff_not, Bool.not_eq_true', Bool.not_eq_false'] at c149
          refine WC.skip ?_
          refine WX.block_normal ?_
          refine WX.next ?_
          refine WC.region ?_
          refine WL.val (OV.move rfl) rfl ?_
          first
          | (refine WL.val (OV.addI rfl rfl (by omega)) rfl ?_)
          | (refine WL.val (OV.add rfl rfl) rfl ?_)
          refine WL.val (OV.assign rfl) rfl ?_
          refine WL.nil ?_
          have hkDl2 : kD.length ≤ (t + 1) * 4194400 := by omega
          exact WX.round7 (t + 1) (qa, pa) kaD kcD kD (oaN, ocN) (os ++ [(OE.mk a129 c129 ys1.length b127 t)]) ⟨rfl, rfl, by rw [show (qa).r = gr.r from hqar]; rfl, by rw [show (pa).r = gs.r from hpar]; rfl, rfl, by show _ = some (Value.slice oaN (os ++ [(OE.mk a129 c129 ys1.length b127 t)]).length ocN); rw [List.length_append]; rfl, rfl, rfl, trivial⟩ (fun w' hw => ⟨⟨by omega, qaok, qaw, paok, paw, hpap, by show qa.es.length ≤ _; omega, hkDg, hkDl2, by rw [List.length_append, hosl]; rfl, fun j o ho => by
            by_cases hj : j < os.length
            · rw [List.getElem?_append_left hj] at ho
              exact hos j o ho
            · have hjl := (List.getElem?_eq_some_iff.1 ho).1
              rw [List.length_append, List.length_singleton] at hjl
              have hje : j = os.length := by omega
              subst hje
              rw [List.getElem?_append_right (Nat.le_refl _), Nat.sub_self] at ho
              simp only [List.getElem?_cons_zero, Option.some.injEq] at ho
              subst ho
              exact ⟨by show t = os.length; omega, by show ys1.length ≤ _; omega⟩⟩, by
            have e8 : row 29 1 oaN (os ++ [(OE.mk a129 c129 ys1.length b127 t)]).length ocN ((os ++ [(OE.mk a129 c129 ys1.length b127 t)]).map oV) = row 29 1 oaN (os.length + 1) ocN (os.map oV ++ [oV (OE.mk a129 c129 ys1.length b127 t)]) := by rw [List.length_append, List.map_append]; rfl
            have e9 : (os ++ [(OE.mk a129 c129 ys1.length b127 t)]).flatMap oA = os.flatMap oA ++ oA (OE.mk a129 c129 ys1.length b127 t) := by simp
            show Sat _ _ _ _ (relA (qa) ++ (relA (pa) ++ (row 91 3 kaD kD.length kcD (kvals kD) :: row 29 1 oaN (os ++ [(OE.mk a129 c129 ys1.length b127 t)]).length ocN ((os ++ [(OE.mk a129 c129 ys1.length b127 t)]).map oV) :: (lstA la lc ysl ++ (kD.flatMap keA ++ (os ++ [(OE.mk a129 c129 ys1.length b127 t)]).flatMap oA))))) _
            rw [e8, e9]
            exact hw⟩) (by show 4 - (t + 1) < 4 - t; omega)
  · try simp only [decide_eq_true_eq, decide_eq_false_iff_not, Bool.not_eq_true', Bool.not_eq_false'] at c53
    refine WC.exit ?_
    refine WX.then_exit ?_
    refine WX.then_exit ?_
    refine WX.block_hit ?_
    refine WX.next ?_
    refine WC.seq ?_
    refine WC.seq ?_
    refine WC.region ?_
    refine WL.val (OV.assign rfl) rfl ?_
    refine WL.nil ?_
    refine WX.next ?_
    refine WC.block ?_
    have ht4 : t = 4 := by omega
    refine WC.weak (S' := fun w' => ((0 < os.length → ∃ q, oa = some ⟨q, 0, none⟩) ∧ ∀ o ∈ os, ∃ q, o.a = some ⟨q, 0, none⟩) ∧ Sat w (fun _ => False) (fun b => b < w.heap.size) w (relA gr ++ (relA gs ++ (row 91 3 ka ks.length kc (kvals ks) :: row 29 1 oa os.length oc (os.map oV) :: (lstA la lc ysl ++ (ks.flatMap keA ++ os.flatMap oA))))) w') (fun w' hw => ⟨⟨fun hp => row_addr (hw.it _ (List.mem_append_right _ (List.mem_append_right _ (.tail _ (.head _))))) hp, fun o ho => row_addr (hw.it _ (List.mem_append_right _ (List.mem_append_right _ (.tail _ (.tail _ (List.mem_append_right _ (List.mem_append_right _ (List.mem_flatMap.2 ⟨o, ho, .head _⟩)))))))) (Nat.succ_pos _)⟩, hw⟩) ?_
    refine WC.pure (fun hoo => ?_)
    obtain ⟨hoa, hoe⟩ := hoo
    refine WC.loop1 (fun (i : Nat) => [(8, ptr gr.r), (10, ptr gs.r), (12, .slice ka ks.length kc), (13, .slice oa os.length oc), (22, .int .i64 (i : Int))])
        (fun i w' => i ≤ os.length ∧ Sat w (fun _ => False) (fun b => b < w.heap.size) w (relA gr ++ (relA gs ++ (row 91 3 ka ks.length kc (kvals ks) :: row 29 1 oa os.length oc (os.map oV) :: (lstA la lc ysl ++ (ks.flatMap keA ++ os.flatMap oA))))) w')
        (fun i => os.length - i) 0 ⟨rfl, rfl, rfl, rfl, rfl, trivial⟩ (fun w' hw => ⟨by omega, hw⟩) ?_
    intro i
    refine WC.pure (fun hi3 => ?_)
    refine WC.seq ?_
    refine WC.seq ?_
    refine WC.region ?_
    refine WL.val (OV.move rfl) rfl ?_
    refine WL.val (OV.move rfl) rfl ?_
    first
    | (refine WL.val (OV.lenSlice rfl T.u49) rfl ?_)
    | (refine WL.val (OV.lenStr rfl T.u49) rfl ?_)
    refine WL.val (OV.lss rfl rfl) rfl ?_
    refine WL.nil ?_
    refine WX.next ?_
    refine WC.cond rfl (fun c157 => ?_) (fun c157 => ?_)
    · try simp only [decide_eq_true_eq, decide_eq_false_iff_not, Bool.not_eq_true', Bool.not_eq_false'] at c157
      refine WC.skip ?_
      refine WX.next ?_
      refine WC.seq ?_
      refine WC.block ?_
      refine WC.seq ?_
      refine WC.quietS (by kernel_rfl) (by kernel_rfl) (m := 13) rfl ?_
      refine WH.free 0 rfl (by kernel_rfl) (by kernel_rfl) (by kernel_rfl) rfl (fun _ => (fun _ h => h)) (OV.move rfl) rfl (listed' := [true, false, false, false, false, false, false, false, false, false, false, false, false]) rfl ?_
      refine WH.free 1 rfl (by kernel_rfl) (by kernel_rfl) (by kernel_rfl) rfl (fun _ => (fun _ h => h)) (OV.move rfl) rfl (listed' := [true, true, false, false, false, false, false, false, false, false, false, false, false]) rfl ?_
      obtain ⟨o, ho⟩ : ∃ o, os[i]? = some o := ⟨_, List.getElem?_eq_getElem (by omega)⟩
      have hom := List.mem_of_getElem? ho
      obtain ⟨hot, hon⟩ := hos i o ho
      obtain ⟨qo, hqo⟩ := hoa (by omega)
      obtain ⟨qe, hqe⟩ := hoe o hom
      refine WH.free 2 rfl (by kernel_rfl) (by kernel_rfl) (by kernel_rfl) rfl (fun _ => (fun _ h => h)) (OV.indexSliceA (a := ⟨qo, 0, none⟩) (i := i) (show _ = some (Value.slice (some ⟨qo, 0, none⟩) os.length oc) by rw [← hqo]; rfl) rfl T.u49 T.z29 (by omega)) rfl (listed' := [true, true, true, false, false, false, false, false, false, false, false, false, false]) rfl ?_
      refine WH.take 3 rfl (by kernel_rfl) (by kernel_rfl) (by kernel_rfl) (by kernel_rfl) (fun _ h => h) (OV.load1 (v := oV o) rfl T.u29 rfl (fun _ hw => row_cellsE hw hqo (List.mem_append_right _ (List.mem_append_right _ (.tail _ (.head _)))) i _ (by rw [List.getElem?_map, ho]; rfl))) rfl (listed' := [true, true, true, true, false, false, false, false, false, false, false, false, false]) rfl ?_
      refine WH.free 4 rfl (by kernel_rfl) (by kernel_rfl) (by kernel_rfl) rfl (fun _ => (fun _ h => h)) (OV.move rfl) rfl (listed' := [true, true, true, true, true, false, false, false, false, false, false, false, false]) rfl ?_
      refine WH.free 5 rfl (by kernel_rfl) (by kernel_rfl) (by kernel_rfl) rfl (fun _ => (fun _ h => h)) (OV.move rfl) rfl (listed' := [true, true, true, true, true, true, false, false, false, false, false, false, false]) rfl ?_
      refine WH.free 6 rfl (by kernel_rfl) (by kernel_rfl) (by kernel_rfl) rfl (fun _ => (fun _ h => h)) (OV.indexSliceA (a := ⟨qo, 0, none⟩) (i := i) (show _ = some (Value.slice (some ⟨qo, 0, none⟩) os.length oc) by rw [← hqo]; rfl) rfl T.u49 T.z29 (by omega)) rfl (listed' := [true, true, true, true, true, true, true, false, false, false, false, false, false]) rfl ?_
      refine WH.take 7 rfl (by kernel_rfl) (by kernel_rfl) (by kernel_rfl) (by kernel_rfl) (fun _ h => h) (OV.load1 (v := oV o) rfl T.u29 rfl (fun _ hw => row_cellsE hw hqo (List.mem_append_right _ (List.mem_append_right _ (.tail _ (.head _)))) i _ (by rw [List.getElem?_map, ho]; rfl))) rfl (listed' := [true, true, true, true, true, true, true, true, false, false, false, false, false]) rfl ?_
      first
      | (refine WH.free 8 rfl (by kernel_rfl) (by kernel_rfl) (by kernel_rfl) rfl (fun _ => (fun _ h => h)) (OV.lenSlice rfl T.u29) rfl (listed' := [true, true, true, true, true, true, true, true, true, false, false, false, false]) rfl ?_)
      | (refine WH.free 8 rfl (by kernel_rfl) (by kernel_rfl) (by kernel_rfl) rfl (fun _ => (fun _ h => h)) (OV.lenStr rfl T.u29) rfl (listed' := [true, true, true, true, true, true, true, true, true, false, false, false, false]) rfl ?_)
      refine WH.free 9 rfl (by kernel_rfl) (by kernel_rfl) (by kernel_rfl) rfl (fun _ => (fun _ h => h)) ((OV.subI (a := ((o.n + 1 : Nat) : Int)) (b := 1) rfl rfl (by omega)).cast (u := .int .i64 (o.n : Int)) (by first | rfl | (congr 1; omega))) rfl (listed' := [true, true, true, true, true, true, true, true, true, true, false, false, false]) rfl ?_
      refine WH.free 10 rfl (by kernel_rfl) (by kernel_rfl) (by kernel_rfl) rfl (fun _ => (fun _ h => h)) (OV.indexSliceA (a := ⟨qe, 0, none⟩) (i := o.n) (show _ = some (Value.slice (some ⟨qe, 0, none⟩) (o.n + 1) o.c) by rw [← hqe]; rfl) rfl T.u29 T.z23 (by omega)) rfl (listed' := [true, true, true, true, true, true, true, true, true, true, true, false, false]) rfl ?_
      refine WH.take 11 rfl (by kernel_rfl) (by kernel_rfl) (by kernel_rfl) (by kernel_rfl) (fun _ h => h) (OV.load1 (v := .slice (some ⟨o.b, 0, none⟩) 1 1) rfl T.u23 rfl (fun _ hw => row_cellsE hw hqe (List.mem_append_right _ (List.mem_append_right _ (.tail _ (.tail _ (List.mem_append_right _ (List.mem_append_right _ (List.mem_flatMap.2 ⟨o, hom, (.head _)⟩))))))) o.n _ (oVs_last o))) rfl (listed' := [true, true, true, true, true, true, true, true, true, true, true, true, false]) rfl ?_
      refine WH.free 12 rfl (by kernel_rfl) (by kernel_rfl) (by kernel_rfl) rfl (fun _ => (fun _ h => h)) (OV.assign rfl) rfl (listed' := [true, true, true, true, true, true, true, true, true, true, true, true, true]) rfl ?_
      refine WH.done (by kernel_rfl) ?_
      refine WX.next ?_
      refine WC.seq ?_
      refine WC.seq ?_
      refine WC.region ?_
      refine WL.val (OV.move rfl) rfl ?_
      first
      | (refine WL.val (OV.lenSlice rfl T.u23) rfl ?_)
      | (refine WL.val (OV.lenStr rfl T.u23) rfl ?_)
      refine WL.val ((OV.neq rfl rfl).cast (u := .bool false) (by simp)) rfl ?_
      refine WL.val (OV.move rfl) rfl ?_
      refine WL.known (t := 175) (b := false) rfl (by rfl) ?_
      refine WL.go (b := false) rfl rfl rfl ?_
      refine WL.val (OV.move rfl) rfl ?_
      refine WL.go (b := false) rfl rfl rfl ?_
      refine WL.val (OV.indexSliceA (a := ⟨o.b, 0, none⟩) (i := 0) rfl rfl T.u23 T.z3 (by decide)) rfl ?_
      refine WL.go (b := false) rfl rfl rfl ?_
      refine WL.val (OV.load1 (v := .int .i64 (o.t : Int)) rfl T.u3 rfl (fun _ hw => cell_own hw (List.mem_append_right _ (List.mem_append_right _ (.tail _ (.tail _ (List.mem_append_right _ (List.mem_append_right _ (List.mem_flatMap.2 ⟨o, hom, (.tail _ (.head _))⟩))))))) rfl)) rfl ?_
      refine WL.go (b := false) rfl rfl rfl ?_
      refine WL.val (OV.move rfl) rfl ?_
      refine WL.go (b := false) rfl rfl rfl ?_
      refine WL.val ((OV.neq rfl rfl).cast (u := .bool false) (by simp [hot])) rfl ?_
      refine WL.val (OV.pickF rfl rfl) rfl ?_
      refine WL.nil ?_
      refine WX.next ?_
      refine WC.condF rfl ?_
      refine WC.skip ?_
      refine WX.next ?_
      refine WC.seq ?_
      refine WC.region ?_
      refine WL.val (OV.assign rfl) rfl ?_
      refine WL.nil ?_
      refine WX.next ?_
      refine WC.block ?_
      refine WC.loop1 (fun (k : Nat) => [(8, ptr gr.r), (10, ptr gs.r), (12, .slice ka ks.length kc), (13, .slice oa os.length oc), (22, .int .i64 (i : Int)), (24, .int .i64 (k : Int))])
          (fun k w' => k ≤ o.n ∧ Sat w (fun _ => False) (fun b => b < w.heap.size) w (relA gr ++ (relA gs ++ (row 91 3 ka ks.length kc (kvals ks) :: row 29 1 oa os.length oc (os.map oV) :: (lstA la lc ysl ++ (ks.flatMap keA ++ os.flatMap oA))))) w')
          (fun k => o.n - k) 0 ⟨rfl, rfl, rfl, rfl, rfl, rfl, trivial⟩ (fun w' hw => ⟨by omega, hw⟩) ?_
      intro k
      refine WC.pure (fun hk3 => ?_)
      refine WC.seq ?_
      refine WC.seq ?_
      refine WC.region ?_
      refine WL.val (OV.move rfl) rfl ?_
      first
      | (refine WL.val (OV.addI rfl rfl (by omega)) rfl ?_)
      | (refine WL.val (OV.add rfl rfl) rfl ?_)
      refine WL.val (OV.move rfl) rfl ?_
      refine WL.val (OV.move rfl) rfl ?_
      refine WL.val (OV.indexSliceA (a := ⟨qo, 0, none⟩) (i := i) (show _ = some (Value.slice (some ⟨qo, 0, none⟩) os.length oc) by rw [← hqo]; rfl) rfl T.u49 T.z29 (by omega)) rfl ?_
      refine WL.val (OV.load1 (v := oV o) rfl T.u29 rfl (fun _ hw => row_cellsE hw hqo (List.mem_append_right _ (List.mem_append_right _ (.tail _ (.head _)))) i _ (by rw [List.getElem?_map, ho]; rfl))) rfl ?_
      first
      | (refine WL.val (OV.lenSlice rfl T.u29) rfl ?_)
      | (refine WL.val (OV.lenStr rfl T.u29) rfl ?_)
      refine WL.val (OV.lss rfl rfl) rfl ?_
      refine WL.nil ?_
      refine WX.next ?_
      refine WC.cond rfl (fun c189 => ?_) (fun c189 => ?_)
      · try simp only [decide_eq_true_eq, decide_eq_false_iff_not, Bool.not_eq_true', Bool.not_eq_false'] at c189
        refine WC.skip ?_
        refine WX.next ?_
        refine WC.seq ?_
        refine WC.block ?_
        refine WC.seq ?_
        refine WC.region ?_
        refine WL.val (OV.move rfl) rfl ?_
        refine WL.val (OV.move rfl) rfl ?_
        refine WL.val (OV.indexSliceA (a := ⟨qo, 0, none⟩) (i := i) (show _ = some (Value.slice (some ⟨qo, 0, none⟩) os.length oc) by rw [← hqo]; rfl) rfl T.u49 T.z29 (by omega)) rfl ?_
        refine WL.val (OV.load1 (v := oV o) rfl T.u29 rfl (fun _ hw => row_cellsE hw hqo (List.mem_append_right _ (List.mem_append_right _ (.tail _ (.head _)))) i _ (by rw [List.getElem?_map, ho]; rfl))) rfl ?_
        refine WL.val (OV.move rfl) rfl ?_
        refine WL.val (OV.indexSliceA (a := ⟨qe, 0, none⟩) (i := k) (show _ = some (Value.slice (some ⟨qe, 0, none⟩) (o.n + 1) o.c) by rw [← hqe]; rfl) rfl T.u29 T.z23 (by omega)) rfl ?_
        refine WL.val (OV.load1 (v := .slice none 0 0) rfl T.u23 rfl (fun _ hw => row_cellsE hw hqe (List.mem_append_right _ (List.mem_append_right _ (.tail _ (.tail _ (List.mem_append_right _ (List.mem_append_right _ (List.mem_flatMap.2 ⟨o, hom, (.head _)⟩))))))) k _ (oVs_nil (by omega)))) rfl ?_
        refine WL.val ((OV.neqSN T.u23 rfl rfl).cast (u := .bool false) rfl) rfl ?_
        refine WL.nil ?_
        refine WX.next ?_
        refine WC.condF rfl ?_
        refine WC.skip ?_
        refine WX.block_normal ?_
        refine WX.next ?_
        refine WC.region ?_
        refine WL.val (OV.move rfl) rfl ?_
        first
        | (refine WL.val (OV.addI rfl rfl (by omega)) rfl ?_)
        | (refine WL.val (OV.add rfl rfl) rfl ?_)
        refine WL.val (OV.assign rfl) rfl ?_
        refine WL.nil ?_
        exact WX.round1 (k + 1) ⟨rfl, rfl, rfl, rfl, rfl, rfl, trivial⟩ (fun w' hw => ⟨by omega, hw⟩) (by show o.n - (k + 1) < o.n - k; omega)
      · try simp only [decide_eq_true_eq, decide_eq_false_iff_not, Bool.not_eq_true', Bool.not_eq_false'] at c189
        refine WC.exit ?_
        refine WX.then_exit ?_
        refine WX.then_exit ?_
        refine WX.block_hit ?_
        refine WX.block_normal ?_
        refine WX.next ?_
        refine WC.region ?_
        refine WL.val (OV.move rfl) rfl ?_
        first
        | (refine WL.val (OV.addI rfl rfl (by omega)) rfl ?_)
        | (refine WL.val (OV.add rfl rfl) rfl ?_)
        refine WL.val (OV.assign rfl) rfl ?_
        refine WL.nil ?_
        exact WX.round1 (i + 1) ⟨rfl, rfl, rfl, rfl, rfl, trivial⟩ (fun w' hw => ⟨by omega, hw⟩) (by show os.length - (i + 1) < os.length - i; omega)
    · try simp only [decide_eq_true_eq, decide_eq_false_iff_not, Bool.not_eq_true', Bool.not_eq_false'] at c157
      refine WC.exit ?_
      refine WX.then_exit ?_
      refine WX.then_exit ?_
      refine WX.block_hit ?_
      refine WX.next ?_
      refine WC.seq ?_
      refine WC.region ?_
      refine WL.val (OV.move rfl) rfl ?_
      refine WL.call0 (v := .bool true) (by kernel_rfl) rfl rfl (fun w' hw' => whole_calls ka ks.length kc (by omega) ks w' (KW.of_items hw' (List.mem_append_right _ (List.mem_append_right _ (.head _))) (fun i hi => List.mem_append_right _ (List.mem_append_right _ (.tail _ (.tail _ (List.mem_append_right _ (List.mem_append_left _ hi)))))) hksg)) ?_
      refine WL.val (OV.move rfl) rfl ?_
      refine WL.known (t := 202) (b := true) rfl (by rfl) ?_
      refine WL.go (b := true) rfl rfl rfl ?_
      refine WL.val (OV.move rfl) rfl ?_
      refine WL.go (b := true) rfl rfl rfl ?_
      refine WL.callTA (ι := RelG × Option Addr × Nat × List Col) (vs := [ptr gr.r, .int .i64 7]) (vv := fun q => .slice q.2.1 q.2.2.2.length q.2.2.1) (pp := fun q => q.2.2.2.map Col.l = selR (rp gr) 7 [] [] ∧ RelOK q.1 ∧ RelLe gr q.1 ∧ q.1.es = gr.es) (relA gr) (AA := fun q => relA q.1 ++ lstA q.2.1 q.2.2.1 q.2.2.2) rfl (by kernel_rfl) (by rfl) rfl (fun w' hw' hH => (rows_calls gr hrok 7 w' hH).mono (fun en w'' ⟨g', la, lc, ys, h1, h2, h3, h4, h5, h6⟩ => ⟨(g', la, lc, ys), h1, ⟨h2, h3, h4, h5⟩, h6⟩)) ?_
      rintro ⟨g1, la1, lc1, ys1⟩ hpp
      obtain ⟨hys1, g1ok, g1le, g1es⟩ : ys1.map Col.l = selR (rp gr) 7 [] [] ∧ RelOK g1 ∧ RelLe gr g1 ∧ g1.es = gr.es := hpp
      have hys1n : ys1.length ≤ gr.es.length := sel_all_len hys1
      rw [List.append_assoc]
      refine WL.go (b := true) rfl rfl rfl ?_
      refine WL.val (OV.move rfl) rfl ?_
      refine WL.go (b := true) rfl rfl rfl ?_
      refine WL.focus (ow' := relA gs ++ (relA g1 ++ (lstA la1 lc1 ys1 ++ (row 91 3 ka ks.length kc (kvals ks) :: row 29 1 oa os.length oc (os.map oV) :: (lstA la lc ysl ++ (ks.flatMap keA ++ os.flatMap oA)))))) (perm_cat [relA g1, lstA la1 lc1 ys1, relA gs, (row 91 3 ka ks.length kc (kvals ks) :: row 29 1 oa os.length oc (os.map oV) :: (lstA la lc ysl ++ (ks.flatMap keA ++ os.flatMap oA)))] [2, 0, 1, 3] (by decide) rfl) ?_
      refine WL.callTA (ι := RelG × Option Addr × Nat × List Col) (vs := [ptr gs.r, .int .i64 7]) (vv := fun q => .slice q.2.1 q.2.2.2.length q.2.2.1) (pp := fun q => q.2.2.2.map Col.l = selR (rp gs) 7 [] [] ∧ RelOK q.1 ∧ RelLe gs q.1 ∧ q.1.es = gs.es) (relA gs) (AA := fun q => relA q.1 ++ lstA q.2.1 q.2.2.1 q.2.2.2) rfl (by kernel_rfl) (by rfl) rfl (fun w' hw' hH => (rows_calls gs hsok 7 w' hH).mono (fun en w'' ⟨g', la, lc, ys, h1, h2, h3, h4, h5, h6⟩ => ⟨(g', la, lc, ys), h1, ⟨h2, h3, h4, h5⟩, h6⟩)) ?_
      rintro ⟨h1, la5, lc5, ys5⟩ hpp
      obtain ⟨hys5, h1ok, h1le, h1es⟩ : ys5.map Col.l = selR (rp gs) 7 [] [] ∧ RelOK h1 ∧ RelLe gs h1 ∧ h1.es = gs.es := hpp
      have hys5n : ys5.length ≤ gs.es.length := sel_all_len hys5
      rw [List.append_assoc]
      have heq1 : ys1.map Col.l = ys5.map Col.l := by rw [hys1, hys5, hrp]
      have hal5 : ∀ r ∈ ys5.map Col.l, r.length = wd ∧ i64s r := by rw [hys5, ← hsw]; exact sel_lens hsok
      have hal1 : ∀ r ∈ ys1.map Col.l, r.length = wd ∧ i64s r := by rw [heq1]; exact hal5
      refine WL.go (b := true) rfl rfl rfl ?_
      refine WL.call0 (v := .bool true) (by kernel_rfl) rfl rfl (fun w' hw' => (sameRows_calls (ys1.map Col.l) (ys5.map Col.l) la1 la5 ys1.length lc1 ys5.length lc5 w' (RLi.of_lst (c := lc1) hw' (fun i hi => List.mem_append_right _ (List.mem_append_right _ (List.mem_append_right _ (List.mem_append_left _ hi)))) (by omega) (fun l hl => by have := (hal1 l hl).1; omega) (fun l hl => (hal1 l hl).2)) (RLi.of_lst (c := lc5) hw' (fun i hi => List.mem_append_right _ (List.mem_append_left _ hi)) (by omega) (fun l hl => by have := (hal5 l hl).1; omega) (fun l hl => (hal5 l hl).2))).mono (fun en w'' ⟨h1, h2⟩ => ⟨h1.trans (by rw [decide_eq_true heq1]), h2⟩)) ?_
      refine WL.val (OV.pickT rfl rfl) rfl ?_
      refine WL.val (OV.assign rfl) rfl ?_
      refine WL.nil ?_
      refine WX.next ?_
      refine WC.ret ?_
      exact WX.ret1 rfl rfl rfl (fun w' hw => ⟨rfl, hw.fr⟩)

end Go.Proofs.YtijplknkpkmblaaDoor
