/- Contracts of functions of the program: what each returns and leaves in memory. Printed by gen.py and walk.py. -/
import Derived.Test.YtijplknkpkmblaaDoorM4
namespace Go.Proofs.YtijplknkpkmblaaDoor
open Go Go.Hw
set_option linter.unusedSimpArgs false
set_option linter.unusedVariables false
/-! ### Amid a range -/
def REb (b14 b12 b10 b7 b8 : Nat) (r : Nat) (parts : Int) (la : Option Addr) (lc : Nat) (ysl : List Col) (lb : Option Addr) (lcb : Nat) (ysb : List Col) : List Hw.Item :=
  box1 b14 29 (.slice lb ysb.length lcb) :: box1 b12 29 (.slice la ysl.length lc) :: box1 b10 25 (ptr r) :: box1 b7 3 (.int .i64 parts) :: box1 b8 4 (.bool false) :: (lstA la lc ysl ++ lstA lb lcb ysb)
def CCa (b15 b14 b12 b10 b7 b8 : Nat) (r : Nat) (parts : Int) (la : Option Addr) (lc : Nat) (ysl : List Col) (lb : Option Addr) (lcb : Nat) (ysb : List Col) (nn : Nat) : List Hw.Item :=
  box1 b15 3 (.int .i64 (nn : Int)) :: REb b14 b12 b10 b7 b8 r parts la lc ysl lb lcb ysb
def CCb (b17 b15 b14 b12 b10 b7 b8 : Nat) (r : Nat) (parts : Int) (la : Option Addr) (lc : Nat) (ysl : List Col) (lb : Option Addr) (lcb : Nat) (ysb : List Col) (la2 : Option Addr) (lc2 : Nat) (ys2 : List Col) (nn : Nat) : List Hw.Item :=
  box1 b15 3 (.int .i64 (nn : Int)) :: box1 b17 29 (.slice la2 ys2.length lc2) :: (lstA la2 lc2 ys2 ++ REb b14 b12 b10 b7 b8 r parts la lc ysl lb lcb ysb)
theorem row_cellsφ {w : World} {T : TypeId} {size : Nat} {a : Addr} {m cap : Nat} {xs : List Value} (h : (row T size (some a) m cap xs).φ w) : ∀ j u, xs[j]? = some u → w.cell? (a.add j) = some u := by
  intro j u hj
  have h1 : w.ownsRow 0 T size (.slice (some a) m cap) m xs := h
  have h2 := h1.cells (g := a.block) rfl j u hj
  rcases h1.2 with ⟨hv, _⟩ | ⟨g, c, cur, hv, _⟩
  · cases hv
  · simp only [Value.slice.injEq, Option.some.injEq] at hv
    rw [hv.1] at h2 ⊢
    exact h2
theorem row_cellsφE {w : World} {T : TypeId} {size : Nat} {a : Option Addr} {q : Addr} {m cap : Nat} {xs : List Value} (hq : a = some q) (h : (row T size a m cap xs).φ w) : ∀ j u, xs[j]? = some u → w.cell? (q.add j) = some u := by
  subst hq
  exact row_cellsφ h
theorem row_cellsE {w0 ws w : World} {M I : Nat → Prop} {ow : List Hw.Item} (h : Sat w0 M I ws ow w) {T : TypeId} {size : Nat} {a : Option Addr} {q : Addr} {m cap : Nat} {xs : List Value} (hq : a = some q) (hm : row T size a m cap xs ∈ ow) : ∀ j u, xs[j]? = some u → w.cell? (q.add j) = some u :=
  row_cellsφE hq (h.it _ hm)
theorem tmod2 (k : Nat) : (k : Int).tmod 2 = ((k % 2 : Nat) : Int) := by
  rw [Int.tmod_eq_emod_of_nonneg (by omega)]
  omega

set_option maxRecDepth 10000 in
theorem amid_calls (n0 : Int) (bs : List (List (List Int))) (a : Option Addr) (n c : Nat) (ms : List (List Int)) (a3 : Option Addr) (n3 c3 : Nat) (hn3 : n3 ≤ 1048576) (parts : Int) (w : World) (hr : BLi w a n bs) (hr3 : RLi w a3 n3 ms) :
  Calls Tryd.prog 7 #[.int .i64 n0, .slice a n c, .agg #[.slice a3 n3 c3], .int .i64 parts] w fun e w' => e = .returned (.bool true) ∧ Fr0 w w' := by
  refine enterS (args := [.int .i64 n0, .slice a n c, .agg #[.slice a3 n3 c3], .int .i64 parts]) (fun _ => False) Tryd.func7 rfl Tryd.ntmps7 rfl rfl ?_
  refine WC.seq ?_
  refine WC.region ?_
  refine WL.box rfl rfl rfl ?_
  intro b6
  refine WL.box rfl rfl rfl ?_
  intro b7
  refine WL.alloc T.zr4 rfl ?_
  intro bb8
  refine WL.nil ?_
  refine WX.next ?_
  refine WC.seq ?_
  refine WC.region ?_
  refine WL.val (OV.move rfl) rfl ?_
  refine WL.call0 (v := .int .i64 (smallN n0 : Int)) (by kernel_rfl) rfl rfl (fun w' hw' => small_calls n0 w') ?_
  obtain ⟨wd, hwd⟩ : ∃ q, q = smallN n0 := ⟨_, rfl⟩
  have hw5 : wd ≤ 5 := by rw [hwd]; exact smallN_le n0
  rw [← hwd]
  refine WL.val (OV.assign rfl) rfl ?_
  refine WL.nil ?_
  refine WX.next ?_
  refine WC.seq ?_
  refine WC.region ?_
  refine WL.val (OV.move rfl) rfl ?_
  refine WL.val (OV.move rfl) rfl ?_
  refine WL.callTA (ι := RelG) (vv := fun g => .tuple #[ptr g.r, .bool true]) (pp := fun g => RelOK g ∧ g.width = wd ∧ rp g = growTo wd bs n ∧ g.es.length ≤ 1048576) [] (AA := fun g => relA g) rfl (by kernel_rfl) rfl rfl (fun w' hw' hH => (grown_calls wd hw5 bs a n c w' (hr.keeps hw'.keeps)).mono (fun en w'' ⟨g, h1, h2, h3, h4, h5, h6⟩ => ⟨g, h1, ⟨h2, h3, h4, h5⟩, h6⟩)) ?_
  rintro g0 hpp
  obtain ⟨g0ok, g0w, g0p, g0l⟩ : RelOK g0 ∧ g0.width = wd ∧ rp g0 = growTo wd bs n ∧ g0.es.length ≤ 1048576 := hpp
  refine WL.val (OV.move rfl) rfl ?_
  refine WL.val (OV.extract rfl rfl) rfl ?_
  refine WL.val (OV.extract rfl rfl) rfl ?_
  refine WL.alloc T.zr25 rfl ?_
  intro b10
  refine WL.store1 (o := 0) rfl rfl rfl T.z25 Nat.zero_lt_one ?_
  refine WL.val (OV.assign rfl) rfl ?_
  refine WL.nil ?_
  refine WX.next ?_
  refine WC.seq ?_
  refine WC.seq ?_
  refine WC.region ?_
  refine WL.val (OV.move rfl) rfl ?_
  refine WL.val (OV.not rfl) rfl ?_
  refine WL.val (OV.move rfl) rfl ?_
  refine WL.known (t := 29) (b := false) rfl (by rfl) ?_
  refine WL.go (b := false) rfl rfl rfl ?_
  refine WL.call0 (v := .bool true) (by kernel_rfl) rfl rfl (fun w' hw' => head_calls w') ?_
  refine WL.go (b := false) rfl rfl rfl ?_
  refine WL.val (OV.not rfl) rfl ?_
  refine WL.val (OV.pickF rfl rfl) rfl ?_
  refine WL.nil ?_
  refine WX.next ?_
  refine WC.condF rfl ?_
  refine WC.skip ?_
  refine WX.next ?_
  refine WC.seq ?_
  refine WC.region ?_
  refine WL.val (OV.loadN (cs := [.slice a3 n3 c3]) rfl T.u45 rfl T.z45 (fun _ hw j v hj => by rw [add_off, Nat.zero_add]; exact own_cells hw (.tail _ (List.mem_append_right _ (.tail _ (.tail _ (.head _))))) j v hj)) rfl ?_
  refine WL.val (OV.move rfl) rfl ?_
  refine WL.callTA (ι := Option Addr × Nat × List Col) (vv := fun q => .slice q.1 q.2.2.length q.2.1) (pp := fun q => q.2.2.map Col.l = ms.map (fun l => wideL l wd)) [] (AA := fun q => lstA q.1 q.2.1 q.2.2) rfl (by kernel_rfl) rfl rfl (fun w' hw' hH => (brought_calls ms a3 n3 c3 wd (by omega) (by omega) w' (hr3.keeps hw'.keeps)).mono (fun en w'' ⟨la, lc, ys, h1, h2, h3⟩ => ⟨(la, lc, ys), h1, h2, h3⟩)) ?_
  rintro ⟨la, lc, ysl⟩ hys
  have hysl : ysl.map Col.l = ms.map (fun l => wideL l wd) := hys
  have hyll : ysl.length ≤ 1048576 := by have := congrArg List.length hysl; have h2 := hr3.len; simp only [List.length_map] at this; omega
  refine WL.alloc T.zr29 rfl ?_
  intro b12
  refine WL.store1 (o := 0) rfl rfl rfl T.z29 Nat.zero_lt_one ?_
  refine WL.nil ?_
  refine WX.next ?_
  refine WC.seq ?_
  refine WC.weak (S' := Sat w (fun _ => False) (fun b => b < w.heap.size) w (relA g0 ++ (box1 b12 29 (.slice la ysl.length lc) :: box1 b10 25 (ptr g0.r) :: box1 b7 3 (.int .i64 parts) :: box1 bb8 4 (.bool false) :: lstA la lc ysl))) (fun w' hw => hw.pick [[box1 b12 29 (.slice la ysl.length lc)], lstA la lc ysl, [box1 b10 25 (ptr g0.r)], relA g0, [box1 bb8 4 (.bool false)], [box1 b7 3 (.int .i64 parts)], [box1 b6 45 (.slice a3 n3 c3)]] [3, 0, 2, 5, 4, 1] 7 rfl (by decide) (by decide)) ?_
  refine WC.region ?_
  refine WL.val (OV.load1 (v := ptr g0.r) rfl T.u25 rfl (fun _ hw => cell_own hw (List.mem_append_right _ (.tail _ (.head _))) rfl)) rfl ?_
  refine WL.val (OV.load1 (v := .int .i64 parts) rfl T.u3 rfl (fun _ hw => cell_own hw (List.mem_append_right _ (.tail _ (.tail _ (.head _)))) rfl)) rfl ?_
  refine WL.callTA (ι := FB) (vs := [ptr g0.r, .int .i64 parts, .slice none 0 0, .slice none 0 0]) (vv := fun F => F.fn) (pp := fun F => F.r = g0.r ∧ F.parts = parts ∧ QR g0.width [] [] F.ls F.ks F.b ∧ RelOK (colG g0 F.col)) (relA g0) (AA := fun F => relA (colG g0 F.col) ++ boxA F) rfl (by kernel_rfl) rfl rfl (fun w' hw' hH => (find_calls g0 g0ok parts [] [] none 0 0 none 0 0 i64s_nil i64s_nil (by omega) (by omega) w' (RI.nil _) (RI.nil _) (fun b hb => by cases hb) (fun b hb => by cases hb) hH).mono (fun en w'' ⟨F, h1, h2, h3, h4, h5, h6⟩ => ⟨F, h1, ⟨h2, h3, h4, h5⟩, h6⟩)) ?_
  rintro F hpp
  obtain ⟨hFr, hFp, hFq, g1ok⟩ : F.r = g0.r ∧ F.parts = parts ∧ QR g0.width [] [] F.ls F.ks F.b ∧ RelOK (colG g0 F.col) := hpp
  rw [List.append_assoc]
  refine WL.val (OV.assign rfl) rfl ?_
  refine WL.nil ?_
  refine WX.next ?_
  refine WC.seq ?_
  refine WC.seq ?_
  refine WC.region ?_
  refine WL.val (OV.move rfl) rfl ?_
  refine WL.val (OV.eqlFN T.u32 rfl rfl) rfl ?_
  refine WL.nil ?_
  refine WX.next ?_
  refine WC.condF rfl ?_
  refine WC.skip ?_
  refine WX.next ?_
  refine WC.seq ?_
  refine WC.focus (ow' := relA (colG g0 F.col) ++ (box1 b10 25 (ptr g0.r) :: box1 b12 29 (.slice la ysl.length lc) :: box1 b7 3 (.int .i64 parts) :: box1 bb8 4 (.bool false) :: (lstA la lc ysl ++ boxA F))) (perm_cat [relA (colG g0 F.col), boxA F, [box1 b12 29 (.slice la ysl.length lc)], [box1 b10 25 (ptr g0.r)], [box1 b7 3 (.int .i64 parts), box1 bb8 4 (.bool false)], lstA la lc ysl] [0, 3, 2, 4, 5, 1] (by decide) rfl) ?_
  refine WC.drawn (fun w' => w'.heap[b10]? = some (.cells [ptr g0.r].toArray 25 (0, 0))) [4] (by kernel_rfl) (by kernel_rfl) (m := 5) rfl ?_
  refine WH.take 0 rfl (by kernel_rfl) (by kernel_rfl) (by kernel_rfl) (by kernel_rfl) (fun _ hw => hw.it (box1 b10 25 (ptr g0.r)) (by first | exact List.mem_append_right _ (.head _) | exact .tail _ (List.mem_append_right _ (.head _)) | exact .tail _ (.tail _ (List.mem_append_right _ (.head _))))) (OV.load1 (v := ptr g0.r) rfl T.u25 rfl (fun _ hw => (cell_at hw (o := 0) rfl).1)) rfl (listed' := [true, false, false, false, false]) rfl ?_
  refine WH.free 2 rfl (by kernel_rfl) (by kernel_rfl) (by kernel_rfl) rfl (fun _ => (fun _ hw => hw.it (box1 b10 25 (ptr g0.r)) (by first | exact List.mem_append_right _ (.head _) | exact .tail _ (List.mem_append_right _ (.head _)) | exact .tail _ (.tail _ (List.mem_append_right _ (.head _)))))) (OV.move rfl) rfl (listed' := [true, false, true, false, false]) rfl ?_
  refine WH.only 1 rfl (by kernel_rfl) (listed' := [true, true, true, false, false]) rfl (fl' := false) rfl ?_
  refine WL.buildSliceN (xs := [.const (.int .i64 (-7)), .const (.int .i64 5)]) (vs := ints [-7, 5]) rfl T.u23 T.z3 T.zr3 rfl rfl rfl (by decide) rfl ?_
  intro b42
  refine WL.nil ?_
  refine WX.contD (by kernel_rfl) (fun _ => (fun _ hw => hw.it (box1 b10 25 (ptr g0.r)) (by first | exact List.mem_append_right _ (.head _) | exact .tail _ (List.mem_append_right _ (.head _)) | exact .tail _ (.tail _ (List.mem_append_right _ (.head _)))))) ?_
  refine WH.only 3 rfl (by kernel_rfl) (listed' := [true, true, true, true, false]) rfl (fl' := false) rfl ?_
  refine WL.call (ι := Col) (vs := [.slice (some ⟨b42, 0, none⟩) 2 2, .int .i64 (wd : Int)]) (vv := fun y => encC y) (SS := fun y w' => y.l = wideL [-7, 5] wd ∧ Sat w (fun _ => False) (fun b => b < w.heap.size) w (row 3 1 y.a y.l.length y.c (ints y.l) :: own b42 (.cells (ints [-7, 5]).toArray 3 (0, 0)) :: (relA (colG g0 F.col) ++ (box1 b10 25 (ptr g0.r) :: box1 b12 29 (.slice la ysl.length lc) :: box1 b7 3 (.int .i64 parts) :: box1 bb8 4 (.bool false) :: (lstA la lc ysl ++ boxA F)))) w') (by kernel_rfl) rfl rfl (fun w' hw' => (wide_col [-7, 5] (some ⟨b42, 0, none⟩) 2 2 wd (by omega) (by omega) w' (RI.of_own rfl hw' (.head _))).mono (fun en w'' ⟨y, h1, h2, h3, h4⟩ => ⟨y, h1, h2, hw'.fresh h3 h4.1 h4.2⟩)) ?_
  intro y
  refine WL.pure (fun hyl => ?_)
  have hi64 : i64s y.l := by rw [hyl]; exact wideL_i64s (lit_i64s (by decide)) wd
  have hyn : y.l.length ≤ 1099511627776 := by rw [hyl, wideL_length]; omega
  refine WL.nil ?_
  refine WX.contD (by kernel_rfl) (fun _ => (fun _ hw => hw.it (box1 b10 25 (ptr g0.r)) (by first | exact List.mem_append_right _ (.head _) | exact .tail _ (List.mem_append_right _ (.head _)) | exact .tail _ (.tail _ (List.mem_append_right _ (.head _)))))) ?_
  refine WH.only 4 rfl (by kernel_rfl) (listed' := [true, true, true, true, true]) rfl (fl' := true) rfl ?_
  have hrr : (colG g0 F.col).r = g0.r := rfl
  refine WL.focus (ow' := relA (colG g0 F.col) ++ (row 3 1 y.a y.l.length y.c (ints y.l) :: own b42 (.cells (ints [-7, 5]).toArray 3 (0, 0)) :: (box1 b10 25 (ptr g0.r) :: box1 b12 29 (.slice la ysl.length lc) :: box1 b7 3 (.int .i64 parts) :: box1 bb8 4 (.bool false) :: (lstA la lc ysl ++ boxA F)))) (perm_cat [[row 3 1 y.a y.l.length y.c (ints y.l)], [own b42 (.cells (ints [-7, 5]).toArray 3 (0, 0))], relA (colG g0 F.col), (box1 b10 25 (ptr g0.r) :: box1 b12 29 (.slice la ysl.length lc) :: box1 b7 3 (.int .i64 parts) :: box1 bb8 4 (.bool false) :: (lstA la lc ysl ++ boxA F))] [2, 0, 1, 3] (by decide) rfl) ?_
  refine WL.callTA (ι := RelG) (vs := [ptr (colG g0 F.col).r, encC y]) (vv := fun _ => .tuple #[.bool (addV (colG g0 F.col).width (rp (colG g0 F.col)) y.l), .int .i64 (addE (colG g0 F.col).width y.l)]) (pp := fun qq => rp qq = addRP (colG g0 F.col).width (rp (colG g0 F.col)) y.l ∧ RelOK qq ∧ RelLe (colG g0 F.col) qq) (relA (colG g0 F.col)) (AA := fun qq => relA qq) rfl (by kernel_rfl) (by rw [hrr]; rfl) rfl (fun w' hw' hH => (add_calls (colG g0 F.col) g1ok y.l y.a y.l.length y.c hi64 (by omega) (by show g0.es.length < _; omega) w' (RI.of_row (c := y.c) hw' (List.mem_append_right _ (.head _))) (fun b hb _ => Sat.sepO hw' (.head _) ⟨b, hb, rfl⟩) hH).mono (fun en w'' ⟨h1, g', h2, h3, h4, h5⟩ => ⟨g', h1, ⟨h2, h3, h4⟩, h5⟩)) ?_
  rintro g45 hpp
  obtain ⟨hrp45, ok45, le45⟩ : rp g45 = addRP (colG g0 F.col).width (rp (colG g0 F.col)) y.l ∧ RelOK g45 ∧ RelLe (colG g0 F.col) g45 := hpp
  have g45l : g45.es.length ≤ 1048577 := by
    have q1 := es_len hrp45
    have q2 := addRP_len (colG g0 F.col).width (rp (colG g0 F.col)) y.l
    rw [rp_len] at q2
    have q3 : (colG g0 F.col).es.length = g0.es.length := rfl
    omega
  have g45r : g45.r = g0.r := le45.r
  refine WL.nil ?_
  refine WX.contD (by kernel_rfl) (fun h => by cases h) ?_
  refine WH.done (by kernel_rfl) ?_
  refine WX.next ?_
  refine WC.seq ?_
  refine WC.weak (S' := Sat w (fun _ => False) (fun b => b < w.heap.size) w (relA g45 ++ (box1 b10 25 (ptr g0.r) :: box1 b12 29 (.slice la ysl.length lc) :: box1 b7 3 (.int .i64 parts) :: box1 bb8 4 (.bool false) :: (lstA la lc ysl ++ boxA F)))) (fun w' hw => hw.pick [relA g45, [row 3 1 y.a y.l.length y.c (ints y.l)], [own b42 (.cells (ints [-7, 5]).toArray 3 (0, 0))], [box1 b10 25 (ptr g0.r), box1 b12 29 (.slice la ysl.length lc), box1 b7 3 (.int .i64 parts), box1 bb8 4 (.bool false)], lstA la lc ysl, boxA F] [0, 3, 4, 5] 6 rfl (by decide) (by decide)) ?_
  refine WC.region ?_
  refine WL.val (OV.load1 (v := ptr g0.r) rfl T.u25 rfl (fun _ hw => cell_own hw (List.mem_append_right _ (.head _)) rfl)) rfl ?_
  refine WL.val (OV.load1 (v := .int .i64 parts) rfl T.u3 rfl (fun _ hw => cell_own hw (List.mem_append_right _ (.tail _ (.tail _ (.head _)))) rfl)) rfl ?_
  refine WL.callTA (ι := RelG × Option Addr × Nat × List Col) (vs := [ptr g45.r, .int .i64 parts]) (vv := fun q => .slice q.2.1 q.2.2.2.length q.2.2.1) (pp := fun q => q.2.2.2.map Col.l = selR (rp g45) parts [] [] ∧ RelOK q.1 ∧ RelLe g45 q.1 ∧ q.1.es = g45.es) (relA g45) (AA := fun q => relA q.1 ++ lstA q.2.1 q.2.2.1 q.2.2.2) rfl (by kernel_rfl) (by rw [g45r]; rfl) rfl (fun w' hw' hH => (rows_calls g45 ok45 parts w' hH).mono (fun en w'' ⟨g', la, lc, ys, h1, h2, h3, h4, h5, h6⟩ => ⟨(g', la, lc, ys), h1, ⟨h2, h3, h4, h5⟩, h6⟩)) ?_
  rintro ⟨g3, lb, lcb, ysb⟩ hpp
  obtain ⟨hysb, g3ok, g3le, g3es⟩ : ysb.map Col.l = selR (rp g45) parts [] [] ∧ RelOK g3 ∧ RelLe g45 g3 ∧ g3.es = g45.es := hpp
  have hysbn : ysb.length ≤ g45.es.length := sel_all_len hysb
  rw [List.append_assoc]
  obtain ⟨FL, hFL⟩ : ∃ FL, FL = selR (rp g3) F.parts [] [] := ⟨_, rfl⟩
  have hFLy : FL = ysb.map Col.l := by rw [hFL, hFp, hysb]; unfold rp; rw [g3es]
  have hFll : FL.length = ysb.length := by rw [hFLy, List.length_map]
  have hbl : ∀ r ∈ ysb.map Col.l, r.length = g45.width ∧ i64s r := by rw [hysb]; exact sel_lens ok45
  have hbw := ok45.wl
  have g3r : g3.r = g0.r := g3le.r.trans g45r
  have hF3 : QR g3.width [] [] F.ls F.ks F.b := by rw [g3le.width, le45.width]; exact hFq
  have hFc3 : F.col ∈ g3.cols := g3le.cols _ (le45.cols _ (List.mem_append_right _ (.head _)))
  have g3l : g3.es.length ≤ 1048577 := by rw [g3es]; exact g45l
  refine WL.alloc T.zr29 rfl ?_
  intro b14
  refine WL.store1 (o := 0) rfl rfl rfl T.z29 Nat.zero_lt_one ?_
  refine WL.nil ?_
  refine WX.next ?_
  refine WC.seq ?_
  refine WC.region ?_
  refine WL.alloc T.zr3 rfl ?_
  intro b15
  refine WL.store1 (o := 0) rfl rfl rfl T.z3 Nat.zero_lt_one ?_
  refine WL.nil ?_
  refine WX.next ?_
  refine WC.seq ?_
  refine WC.seq ?_
  refine WC.focus (ow' := (relA g3 ++ boxA F) ++ ((CCa b15 b14 b12 b10 b7 bb8 g0.r parts la lc ysl lb lcb ysb 0) ++ [])) ((List.Perm.of_eq (by simp [cat, CCa, REb])).trans (perm_cat [[box1 b15 3 (.int .i64 0)], [box1 b14 29 (.slice lb ysb.length lcb)], relA g3, lstA lb lcb ysb, [box1 b10 25 (ptr g0.r)], [box1 b12 29 (.slice la ysl.length lc)], [box1 b7 3 (.int .i64 parts), box1 bb8 4 (.bool false)], lstA la lc ysl, boxA F] [2, 8, 0, 1, 5, 4, 6, 7, 3] (by decide) rfl)) ?_
  refine WC.region ?_
  refine WL.val (OV.move rfl) rfl ?_
  refine WL.nil ?_
  refine WX.next ?_
  refine WC.block ?_
  refine WC.rangeFunc (RA := fun q => relA q ++ boxA F) (CC := fun nn : Nat => (CCa b15 b14 b12 b10 b7 bb8 g0.r parts la lc ysl lb lcb ysb nn)) (EI := EIr) (arg := argr) (xs := FL) (g0 := g3) (y0 := 0) (R01 := fun q => RelOK q ∧ RelLe g3 q ∧ q.es = g3.es) (Mono := fun q => RelLe g3 q) (gf := 30) (caps := F.caps) (ow := []) rfl rfl (by kernel_rfl) rfl (fun w' _ => by rw [hFL]; exact find1_iter F g3 g3ok [] [] hF3 (hFr.trans g3r.symm) hFc3 w')
    (fun k q nn => RelOK q ∧ RelLe g3 q ∧ nn = k ∧ q.es.length ≤ 1048577 + k) (fun _ _ _ _ => False) (fun q hq => ⟨hq.1, hq.2.1, rfl, by rw [hq.2.2]; omega⟩) (fun k q y h => h.2.1) ?_ ?_ ?_
  · rintro l lr k q0 nn d W x hxs hJ hS
    obtain ⟨okq, leq, hnn, hql⟩ : RelOK q0 ∧ RelLe g3 q0 ∧ nn = k ∧ q0.es.length ≤ 1048577 + k := hJ
    subst hnn
    have hkl : nn < FL.length := (List.getElem?_eq_some_iff.1 hxs).1
    obtain ⟨k, hk⟩ : ∃ k, k = nn := ⟨_, rfl⟩
    rw [← hk] at hS ⊢
    rw [← hk] at hkl hxs hql
    clear hk
    have hlb := lst_addr (lc := lcb) hS (.tail _ (List.mem_append_right _ (List.mem_append_right _ (List.mem_append_left _ (.tail _ (.tail _ (.tail _ (.tail _ (.tail _ (.tail _ (List.mem_append_right _ (.head _))))))))))))
    have hll := lst_addr (lc := lc) hS (.tail _ (List.mem_append_right _ (List.mem_append_right _ (List.mem_append_left _ (.tail _ (.tail _ (.tail _ (.tail _ (.tail _ (.tail _ (List.mem_append_left _ (.head _))))))))))))
    refine WC.region ?_
    refine WL.val (OV.assign rfl) rfl ?_
    refine WL.nil ?_
    refine WX.begin ?_
    refine WC.focus (ow' := relA q0 ++ ((CCa b15 b14 b12 b10 b7 bb8 g0.r parts la lc ysl lb lcb ysb k) ++ (row 3 1 d.1 x.length d.2 (ints x) :: own l (lr.ob .busy none) :: boxA F))) ((perm_cat [[own l (lr.ob .busy none)], [row 3 1 d.1 x.length d.2 (ints x)], relA q0, boxA F, (CCa b15 b14 b12 b10 b7 bb8 g0.r parts la lc ysl lb lcb ysb k)] [2, 4, 1, 0, 3] (by decide) rfl).trans (List.Perm.of_eq (by simp [cat]))) ?_
    refine WC.block ?_
    refine WC.seq ?_
    refine WC.seq ?_
    refine WC.region ?_
    refine WL.val (OV.load1 (v := .int .i64 (k : Int)) rfl T.u3 rfl (fun _ hw => cell_own hw (List.mem_append_right _ (List.mem_append_left _ (.head _))) rfl)) rfl ?_
    refine WL.val (OV.load1 (v := .slice lb ysb.length lcb) rfl T.u29 rfl (fun _ hw => cell_own hw (List.mem_append_right _ (List.mem_append_left _ (.tail _ (.head _)))) rfl)) rfl ?_
    first
    | (refine WL.val (OV.lenSlice rfl T.u29) rfl ?_)
    | (refine WL.val (OV.lenStr rfl T.u29) rfl ?_)
    refine WL.val (OV.geq rfl rfl) rfl ?_
    refine WL.val (OV.move rfl) rfl ?_
    refine WL.known (t := 55) (b := false) rfl (by exact decide_eq_false (by omega)) ?_
    refine WL.go (b := false) rfl rfl rfl ?_
    refine WL.val (OV.move rfl) rfl ?_
    refine WL.go (b := false) rfl rfl rfl ?_
    refine WL.val (OV.load1 (v := .slice lb ysb.length lcb) rfl T.u29 rfl (fun _ hw => cell_own hw (List.mem_append_right _ (List.mem_append_left _ (.tail _ (.head _)))) rfl)) rfl ?_
    refine WL.go (b := false) rfl rfl rfl ?_
    refine WL.val (OV.load1 (v := .int .i64 (k : Int)) rfl T.u3 rfl (fun _ hw => cell_own hw (List.mem_append_right _ (List.mem_append_left _ (.head _))) rfl)) rfl ?_
    refine WL.go (b := false) rfl rfl rfl ?_
    obtain ⟨y, hy, hym, hyl⟩ := col_at hFLy.symm (k := k) (by omega)
    have hyx : x = y.l := Option.some.inj (hxs.symm.trans hyl)
    have hyn : y.l.length ≤ 1099511627776 := by have := (hbl y.l (List.mem_map.2 ⟨y, hym, rfl⟩)).1; omega
    obtain ⟨q5, hq5⟩ := hlb (by omega)
    refine WL.val (OV.indexSliceA (a := ⟨q5, 0, none⟩) (i := k) (show _ = some (Value.slice (some ⟨q5, 0, none⟩) ysb.length lcb) by rw [← hq5]; rfl) rfl T.u29 T.z23 (by omega)) rfl ?_
    refine WL.go (b := false) rfl rfl rfl ?_
    refine WL.val (OV.load1 (v := encC y) rfl T.u23 rfl (fun _ hw => row_cellsE hw hq5 (List.mem_append_right _ (List.mem_append_left _ (.tail _ (.tail _ (.tail _ (.tail _ (.tail _ (.tail _ (List.mem_append_right _ (.head _)))))))))) k _ (by rw [List.getElem?_map, hy]; rfl))) rfl ?_
    refine WL.go (b := false) rfl rfl rfl ?_
    refine WL.call0 (v := .bool true) (vs := [argr x d, encC y]) (by kernel_rfl) rfl rfl (fun w' hw' => (same_calls x y.l d.1 y.a x.length d.2 y.l.length y.c (by rw [hyx]; exact hyn) hyn w' (RI.of_row (c := d.2) hw' (List.mem_append_right _ (List.mem_append_right _ (.head _)))) (RI.of_row (c := y.c) hw' (List.mem_append_right _ (List.mem_append_left _ (.tail _ (.tail _ (.tail _ (.tail _ (.tail _ (.tail _ (List.mem_append_right _ (colmem hym)))))))))))).mono (fun en w'' ⟨h1, h2⟩ => ⟨h1.trans (by rw [decide_eq_true hyx]), h2⟩)) ?_
    refine WL.go (b := false) rfl rfl rfl ?_
    refine WL.val (OV.not rfl) rfl ?_
    refine WL.val (OV.pickF rfl rfl) rfl ?_
    refine WL.nil ?_
    refine WX.next ?_
    refine WC.condF rfl ?_
    refine WC.skip ?_
    refine WX.next ?_
    refine WC.seq ?_
    refine WC.seq ?_
    refine WC.region ?_
    refine WL.val (OV.load1 (v := .int .i64 (k : Int)) rfl T.u3 rfl (fun _ hw => cell_own hw (List.mem_append_right _ (List.mem_append_left _ (.head _))) rfl)) rfl ?_
    refine WL.val (OV.load1 (v := .slice la ysl.length lc) rfl T.u29 rfl (fun _ hw => cell_own hw (List.mem_append_right _ (List.mem_append_left _ (.tail _ (.tail _ (.head _))))) rfl)) rfl ?_
    first
    | (refine WL.val (OV.lenSlice rfl T.u29) rfl ?_)
    | (refine WL.val (OV.lenStr rfl T.u29) rfl ?_)
    refine WL.val (OV.lss rfl rfl) rfl ?_
    refine WL.nil ?_
    refine WX.next ?_
    refine WC.cond rfl (fun c67 => ?_) (fun c67 => ?_)
    · try simp only [decide_eq_true_eq, decide_eq_false_iff_not, Bool.not_eq_true', Bool.not_eq_false'] at c67
      refine WC.drawn (fun w' => ∀ i ∈ (CCa b15 b14 b12 b10 b7 bb8 g0.r parts la lc ysl lb lcb ysb k), i.φ w') [] (by kernel_rfl) (by kernel_rfl) (m := 6) rfl ?_
      refine WH.take 0 rfl (by kernel_rfl) (by kernel_rfl) (by kernel_rfl) (by kernel_rfl) (fun _ hw i hi => hw.it i (List.mem_append_right _ (List.mem_append_left _ hi))) (OV.load1 (v := ptr g0.r) rfl T.u25 rfl (fun _ hw => (cell_at (hw _ (.tail _ (.tail _ (.tail _ (.head _))))) (o := 0) rfl).1)) rfl (listed' := [true, false, false, false, false, false]) rfl ?_
      refine WH.take 1 rfl (by kernel_rfl) (by kernel_rfl) (by kernel_rfl) (by kernel_rfl) (fun _ hw i hi => hw.it i (List.mem_append_right _ (List.mem_append_left _ hi))) (OV.load1 (v := .slice la ysl.length lc) rfl T.u29 rfl (fun _ hw => (cell_at (hw _ (.tail _ (.tail _ (.head _)))) (o := 0) rfl).1)) rfl (listed' := [true, true, false, false, false, false]) rfl ?_
      refine WH.take 2 rfl (by kernel_rfl) (by kernel_rfl) (by kernel_rfl) (by kernel_rfl) (fun _ hw i hi => hw.it i (List.mem_append_right _ (List.mem_append_left _ hi))) (OV.load1 (v := .int .i64 (k : Int)) rfl T.u3 rfl (fun _ hw => (cell_at (hw _ (.head _)) (o := 0) rfl).1)) rfl (listed' := [true, true, true, false, false, false]) rfl ?_
      obtain ⟨y, hy, hym, hyl, hyi, hyn2⟩ := col_wide hysl hr3.i64 (k := k) (by omega)
      have hyn : y.l.length ≤ 1099511627776 := by omega
      obtain ⟨q6, hq6⟩ := hll (by omega)
      refine WH.free 3 rfl (by kernel_rfl) (by kernel_rfl) (by kernel_rfl) rfl (fun _ => (fun _ hw i hi => hw.it i (List.mem_append_right _ (List.mem_append_left _ hi)))) (OV.indexSliceA (a := ⟨q6, 0, none⟩) (i := k) (show _ = some (Value.slice (some ⟨q6, 0, none⟩) ysl.length lc) by rw [← hq6]; rfl) rfl T.u29 T.z23 (by omega)) rfl (listed' := [true, true, true, true, false, false]) rfl ?_
      refine WH.take 4 rfl (by kernel_rfl) (by kernel_rfl) (by kernel_rfl) (by kernel_rfl) (fun _ hw i hi => hw.it i (List.mem_append_right _ (List.mem_append_left _ hi))) (OV.load1 (v := encC y) rfl T.u23 rfl (fun _ hw => row_cellsφE hq6 (hw _ (.tail _ (.tail _ (.tail _ (.tail _ (.tail _ (.tail _ (List.mem_append_left _ (.head _))))))))) k _ (by rw [List.getElem?_map, hy]; rfl))) rfl (listed' := [true, true, true, true, true, false]) rfl ?_
      refine WH.only 5 rfl (by kernel_rfl) (listed' := [true, true, true, true, true, true]) rfl (fl' := false) rfl ?_
      have hqr0 : q0.r = g0.r := leq.r.trans g3r
      have hi64 := hyi
      refine WL.callTA (ι := RelG) (vs := [ptr q0.r, encC y]) (vv := fun _ => .tuple #[.bool (addV q0.width (rp q0) y.l), .int .i64 (addE q0.width y.l)]) (pp := fun qq => rp qq = addRP q0.width (rp q0) y.l ∧ RelOK qq ∧ RelLe q0 qq) (relA q0) (AA := fun qq => relA qq) rfl (by kernel_rfl) (by rw [hqr0]; rfl) rfl (fun w' hw' hH => (add_calls q0 okq y.l y.a y.l.length y.c hi64 (by omega) (by omega) w' (RI.of_row (c := y.c) hw' (List.mem_append_right _ (List.mem_append_left _ (.tail _ (.tail _ (.tail _ (.tail _ (.tail _ (.tail _ (List.mem_append_left _ (colmem hym))))))))))) (fun b hb _ => Sat.sepO hw' (List.mem_append_left _ (.tail _ (.tail _ (.tail _ (.tail _ (.tail _ (.tail _ (List.mem_append_left _ (colmem hym))))))))) ⟨b, hb, rfl⟩) hH).mono (fun en w'' ⟨h1, g', h2, h3, h4, h5⟩ => ⟨g', h1, ⟨h2, h3, h4⟩, h5⟩)) ?_
      rintro g73 hpp
      obtain ⟨hrp73, ok73, le73⟩ : rp g73 = addRP q0.width (rp q0) y.l ∧ RelOK g73 ∧ RelLe q0 g73 := hpp
      refine WL.nil ?_
      refine WX.contD (by kernel_rfl) (fun _ => (fun _ hw i hi => hw.it i (List.mem_append_right _ (List.mem_append_left _ hi)))) ?_
      refine WH.done (by kernel_rfl) ?_
      refine WX.next ?_
      refine WC.seq ?_
      refine WC.seq ?_
      obtain ⟨qa, hqa, qaok, qale, qal⟩ : ∃ z, z = g73 ∧ RelOK z ∧ RelLe q0 z ∧ z.es.length ≤ q0.es.length + 1 := ⟨_, rfl, ok73, le73, (by have q1 := es_len hrp73; have q2 := addRP_len q0.width (rp q0) y.l; rw [rp_len] at q2; omega)⟩
      rw [show relA (g73) = relA qa from by rw [hqa]]
      refine WC.region ?_
      refine WL.val (OV.load1 (v := .int .i64 (k : Int)) rfl T.u3 rfl (fun _ hw => cell_own hw (List.mem_append_right _ (List.mem_append_left _ (.head _))) rfl)) rfl ?_
      refine WL.val ((OV.rem rfl rfl rfl).cast (u := .int .i64 ((k % 2 : Nat) : Int)) (by rw [tmod2])) rfl ?_
      refine WL.val (OV.eql rfl rfl) rfl ?_
      refine WL.nil ?_
      refine WX.next ?_
      refine WC.cond rfl (fun c76 => ?_) (fun c76 => ?_)
      · try simp only [decide_eq_true_eq, decide_eq_false_iff_not, Bool.not_eq_true', Bool.not_eq_false'] at c76
        refine WC.region ?_
        refine WL.val (OV.load1 (v := ptr g0.r) rfl T.u25 rfl (fun _ hw => cell_own hw (List.mem_append_right _ (List.mem_append_left _ (.tail _ (.tail _ (.tail _ (.head _)))))) rfl)) rfl ?_
        refine WL.callTA (ι := Unit) (vs := [ptr qa.r]) (vv := fun _ => .int .i64 (qa.ns.length : Int)) (pp := fun _ => True) (relA qa) (AA := fun _ => relA (turnG qa)) rfl (by kernel_rfl) (by rw [qale.r, leq.r, g3r]; rfl) rfl (fun w' hw' hH => (turn_calls qa qaok w' hH).mono (fun en w'' ⟨h1, h2⟩ => ⟨(), h1, trivial, h2⟩)) ?_
        rintro _ _
        refine WL.nil ?_
        refine WX.next ?_
        refine WC.seq ?_
        obtain ⟨qb, hqb, qbok, qble, qbl⟩ : ∃ z, z = turnG qa ∧ RelOK z ∧ RelLe qa z ∧ z.es.length ≤ qa.es.length + 0 := ⟨_, rfl, turnG_ok qaok, turn_le qa, (by simp [turnG])⟩
        rw [show relA (turnG qa) = relA qb from by rw [hqb]]
        refine WC.region ?_
        refine WL.val (OV.load1 (v := ptr g0.r) rfl T.u25 rfl (fun _ hw => cell_own hw (List.mem_append_right _ (List.mem_append_left _ (.tail _ (.tail _ (.tail _ (.head _)))))) rfl)) rfl ?_
        refine WL.val (OV.load1 (v := .int .i64 parts) rfl T.u3 rfl (fun _ hw => cell_own hw (List.mem_append_right _ (List.mem_append_left _ (.tail _ (.tail _ (.tail _ (.tail _ (.head _))))))) rfl)) rfl ?_
        refine WL.call0 (v := .int .i64 (lenOf qb.es parts : Int)) (vs := [ptr qb.r, .int .i64 parts]) (by kernel_rfl) (by rw [qble.r, qale.r, leq.r, g3r]; rfl) rfl (fun w' hw' => len_calls qb qbok parts w' hw'.holds) ?_
        refine WL.nil ?_
        refine WX.next ?_
        refine WC.region ?_
        refine WL.val (OV.load1 (v := .int .i64 (k : Int)) rfl T.u3 rfl (fun _ hw => cell_own hw (List.mem_append_right _ (List.mem_append_left _ (.head _))) rfl)) rfl ?_
        first
        | (refine WL.val (OV.addI rfl rfl (by omega)) rfl ?_)
        | (refine WL.val (OV.add rfl rfl) rfl ?_)
        refine WL.focus (ow' := box1 b15 3 (.int .i64 (k : Int)) :: (relA qb ++ ((REb b14 b12 b10 b7 bb8 g0.r parts la lc ysl lb lcb ysb) ++ (row 3 1 d.1 x.length d.2 (ints x) :: own l (lr.ob .busy none) :: boxA F)))) (perm_cat [relA qb, [box1 b15 3 (.int .i64 (k : Int))], (REb b14 b12 b10 b7 bb8 g0.r parts la lc ysl lb lcb ysb), (row 3 1 d.1 x.length d.2 (ints x) :: own l (lr.ob .busy none) :: boxA F)] [1, 0, 2, 3] (by decide) rfl) (WL.store1 (o := 0) rfl rfl rfl T.z3 Nat.zero_lt_one ?_)
        refine WL.nil ?_
        refine WX.block_normal ?_
        refine WX.focus (ow' := own l (lr.ob .busy none) :: (box1 b15 3 (.int .i64 ((k + 1 : Nat) : Int)) :: (relA qb ++ ((REb b14 b12 b10 b7 bb8 g0.r parts la lc ysl lb lcb ysb) ++ (row 3 1 d.1 x.length d.2 (ints x) :: boxA F))))) (perm_cat [[box1 b15 3 (.int .i64 ((k + 1 : Nat) : Int))], relA qb, (REb b14 b12 b10 b7 bb8 g0.r parts la lc ysl lb lcb ysb), [row 3 1 d.1 x.length d.2 (ints x)], [own l (lr.ob .busy none)], boxA F] [4, 0, 1, 2, 3, 5] (by decide) rfl) (WX.roundEnd (fun w' hw => ⟨qb, k + 1, lr.ob .ready none, fun _ => ⟨⟨qbok, leq.trans (qale.trans qble), rfl, by omega⟩, rfl⟩, fun h => (by cases h), ?_⟩))
        exact Hw.Sat.turned ((hw.pick [[own l (lr.ob .ready none)], [box1 b15 3 (.int .i64 ((k + 1 : Nat) : Int))], relA qb, (REb b14 b12 b10 b7 bb8 g0.r parts la lc ysl lb lcb ysb), [row 3 1 d.1 x.length d.2 (ints x)], boxA F] [0, 2, 5, 1, 3] 6 rfl (by decide) (by decide)).perm (List.Perm.of_eq (by simp [cat, CCa])))
      · try simp only [decide_eq_true_eq, decide_eq_false_iff_not, Bool.not_eq_true', Bool.not_eq_false'] at c76
        refine WC.skip ?_
        refine WX.next ?_
        refine WC.seq ?_
        obtain ⟨qb, hqb, qbok, qble, qbl⟩ : ∃ z, z = qa ∧ RelOK z ∧ RelLe qa z ∧ z.es.length ≤ qa.es.length + 0 := ⟨_, rfl, qaok, RelLe.refl qa, (by omega)⟩
        rw [show relA (qa) = relA qb from by rw [hqb]]
        refine WC.region ?_
        refine WL.val (OV.load1 (v := ptr g0.r) rfl T.u25 rfl (fun _ hw => cell_own hw (List.mem_append_right _ (List.mem_append_left _ (.tail _ (.tail _ (.tail _ (.head _)))))) rfl)) rfl ?_
        refine WL.val (OV.load1 (v := .int .i64 parts) rfl T.u3 rfl (fun _ hw => cell_own hw (List.mem_append_right _ (List.mem_append_left _ (.tail _ (.tail _ (.tail _ (.tail _ (.head _))))))) rfl)) rfl ?_
        refine WL.call0 (v := .int .i64 (lenOf qb.es parts : Int)) (vs := [ptr qb.r, .int .i64 parts]) (by kernel_rfl) (by rw [qble.r, qale.r, leq.r, g3r]; rfl) rfl (fun w' hw' => len_calls qb qbok parts w' hw'.holds) ?_
        refine WL.nil ?_
        refine WX.next ?_
        refine WC.region ?_
        refine WL.val (OV.load1 (v := .int .i64 (k : Int)) rfl T.u3 rfl (fun _ hw => cell_own hw (List.mem_append_right _ (List.mem_append_left _ (.head _))) rfl)) rfl ?_
        first
        | (refine WL.val (OV.addI rfl rfl (by omega)) rfl ?_)
        | (refine WL.val (OV.add rfl rfl) rfl ?_)
        refine WL.focus (ow' := box1 b15 3 (.int .i64 (k : Int)) :: (relA qb ++ ((REb b14 b12 b10 b7 bb8 g0.r parts la lc ysl lb lcb ysb) ++ (row 3 1 d.1 x.length d.2 (ints x) :: own l (lr.ob .busy none) :: boxA F)))) (perm_cat [relA qb, [box1 b15 3 (.int .i64 (k : Int))], (REb b14 b12 b10 b7 bb8 g0.r parts la lc ysl lb lcb ysb), (row 3 1 d.1 x.length d.2 (ints x) :: own l (lr.ob .busy none) :: boxA F)] [1, 0, 2, 3] (by decide) rfl) (WL.store1 (o := 0) rfl rfl rfl T.z3 Nat.zero_lt_one ?_)
        refine WL.nil ?_
        refine WX.block_normal ?_
        refine WX.focus (ow' := own l (lr.ob .busy none) :: (box1 b15 3 (.int .i64 ((k + 1 : Nat) : Int)) :: (relA qb ++ ((REb b14 b12 b10 b7 bb8 g0.r parts la lc ysl lb lcb ysb) ++ (row 3 1 d.1 x.length d.2 (ints x) :: boxA F))))) (perm_cat [[box1 b15 3 (.int .i64 ((k + 1 : Nat) : Int))], relA qb, (REb b14 b12 b10 b7 bb8 g0.r parts la lc ysl lb lcb ysb), [row 3 1 d.1 x.length d.2 (ints x)], [own l (lr.ob .busy none)], boxA F] [4, 0, 1, 2, 3, 5] (by decide) rfl) (WX.roundEnd (fun w' hw => ⟨qb, k + 1, lr.ob .ready none, fun _ => ⟨⟨qbok, leq.trans (qale.trans qble), rfl, by omega⟩, rfl⟩, fun h => (by cases h), ?_⟩))
        exact Hw.Sat.turned ((hw.pick [[own l (lr.ob .ready none)], [box1 b15 3 (.int .i64 ((k + 1 : Nat) : Int))], relA qb, (REb b14 b12 b10 b7 bb8 g0.r parts la lc ysl lb lcb ysb), [row 3 1 d.1 x.length d.2 (ints x)], boxA F] [0, 2, 5, 1, 3] 6 rfl (by decide) (by decide)).perm (List.Perm.of_eq (by simp [cat, CCa])))
    · try simp only [decide_eq_true_eq, decide_eq_false_iff_not, Bool.not_eq_true', Bool.not_eq_false'] at c67
      refine WC.skip ?_
      refine WX.next ?_
      refine WC.seq ?_
      refine WC.seq ?_
      obtain ⟨qa, hqa, qaok, qale, qal⟩ : ∃ z, z = q0 ∧ RelOK z ∧ RelLe q0 z ∧ z.es.length ≤ q0.es.length + 1 := ⟨_, rfl, okq, RelLe.refl q0, (by omega)⟩
      rw [show relA (q0) = relA qa from by rw [hqa]]
      refine WC.region ?_
      refine WL.val (OV.load1 (v := .int .i64 (k : Int)) rfl T.u3 rfl (fun _ hw => cell_own hw (List.mem_append_right _ (List.mem_append_left _ (.head _))) rfl)) rfl ?_
      refine WL.val ((OV.rem rfl rfl rfl).cast (u := .int .i64 ((k % 2 : Nat) : Int)) (by rw [tmod2])) rfl ?_
      refine WL.val (OV.eql rfl rfl) rfl ?_
      refine WL.nil ?_
      refine WX.next ?_
      refine WC.cond rfl (fun c76 => ?_) (fun c76 => ?_)
      · try simp only [decide_eq_true_eq, decide_eq_false_iff_not, Bool.not_eq_true', Bool.not_eq_false'] at c76
        refine WC.region ?_
        refine WL.val (OV.load1 (v := ptr g0.r) rfl T.u25 rfl (fun _ hw => cell_own hw (List.mem_append_right _ (List.mem_append_left _ (.tail _ (.tail _ (.tail _ (.head _)))))) rfl)) rfl ?_
        refine WL.callTA (ι := Unit) (vs := [ptr qa.r]) (vv := fun _ => .int .i64 (qa.ns.length : Int)) (pp := fun _ => True) (relA qa) (AA := fun _ => relA (turnG qa)) rfl (by kernel_rfl) (by rw [qale.r, leq.r, g3r]; rfl) rfl (fun w' hw' hH => (turn_calls qa qaok w' hH).mono (fun en w'' ⟨h1, h2⟩ => ⟨(), h1, trivial, h2⟩)) ?_
        rintro _ _
        refine WL.nil ?_
        refine WX.next ?_
        refine WC.seq ?_
        obtain ⟨qb, hqb, qbok, qble, qbl⟩ : ∃ z, z = turnG qa ∧ RelOK z ∧ RelLe qa z ∧ z.es.length ≤ qa.es.length + 0 := ⟨_, rfl, turnG_ok qaok, turn_le qa, (by simp [turnG])⟩
        rw [show relA (turnG qa) = relA qb from by rw [hqb]]
        refine WC.region ?_
        refine WL.val (OV.load1 (v := ptr g0.r) rfl T.u25 rfl (fun _ hw => cell_own hw (List.mem_append_right _ (List.mem_append_left _ (.tail _ (.tail _ (.tail _ (.head _)))))) rfl)) rfl ?_
        refine WL.val (OV.load1 (v := .int .i64 parts) rfl T.u3 rfl (fun _ hw => cell_own hw (List.mem_append_right _ (List.mem_append_left _ (.tail _ (.tail _ (.tail _ (.tail _ (.head _))))))) rfl)) rfl ?_
        refine WL.call0 (v := .int .i64 (lenOf qb.es parts : Int)) (vs := [ptr qb.r, .int .i64 parts]) (by kernel_rfl) (by rw [qble.r, qale.r, leq.r, g3r]; rfl) rfl (fun w' hw' => len_calls qb qbok parts w' hw'.holds) ?_
        refine WL.nil ?_
        refine WX.next ?_
        refine WC.region ?_
        refine WL.val (OV.load1 (v := .int .i64 (k : Int)) rfl T.u3 rfl (fun _ hw => cell_own hw (List.mem_append_right _ (List.mem_append_left _ (.head _))) rfl)) rfl ?_
        first
        | (refine WL.val (OV.addI rfl rfl (by omega)) rfl ?_)
        | (refine WL.val (OV.add rfl rfl) rfl ?_)
        refine WL.focus (ow' := box1 b15 3 (.int .i64 (k : Int)) :: (relA qb ++ ((REb b14 b12 b10 b7 bb8 g0.r parts la lc ysl lb lcb ysb) ++ (row 3 1 d.1 x.length d.2 (ints x) :: own l (lr.ob .busy none) :: boxA F)))) (perm_cat [relA qb, [box1 b15 3 (.int .i64 (k : Int))], (REb b14 b12 b10 b7 bb8 g0.r parts la lc ysl lb lcb ysb), (row 3 1 d.1 x.length d.2 (ints x) :: own l (lr.ob .busy none) :: boxA F)] [1, 0, 2, 3] (by decide) rfl) (WL.store1 (o := 0) rfl rfl rfl T.z3 Nat.zero_lt_one ?_)
        refine WL.nil ?_
        refine WX.block_normal ?_
        refine WX.focus (ow' := own l (lr.ob .busy none) :: (box1 b15 3 (.int .i64 ((k + 1 : Nat) : Int)) :: (relA qb ++ ((REb b14 b12 b10 b7 bb8 g0.r parts la lc ysl lb lcb ysb) ++ (row 3 1 d.1 x.length d.2 (ints x) :: boxA F))))) (perm_cat [[box1 b15 3 (.int .i64 ((k + 1 : Nat) : Int))], relA qb, (REb b14 b12 b10 b7 bb8 g0.r parts la lc ysl lb lcb ysb), [row 3 1 d.1 x.length d.2 (ints x)], [own l (lr.ob .busy none)], boxA F] [4, 0, 1, 2, 3, 5] (by decide) rfl) (WX.roundEnd (fun w' hw => ⟨qb, k + 1, lr.ob .ready none, fun _ => ⟨⟨qbok, leq.trans (qale.trans qble), rfl, by omega⟩, rfl⟩, fun h => (by cases h), ?_⟩))
        exact Hw.Sat.turned ((hw.pick [[own l (lr.ob .ready none)], [box1 b15 3 (.int .i64 ((k + 1 : Nat) : Int))], relA qb, (REb b14 b12 b10 b7 bb8 g0.r parts la lc ysl lb lcb ysb), [row 3 1 d.1 x.length d.2 (ints x)], boxA F] [0, 2, 5, 1, 3] 6 rfl (by decide) (by decide)).perm (List.Perm.of_eq (by simp [cat, CCa])))
      · try simp only [decide_eq_true_eq, decide_eq_false_iff_not, Bool.not_eq_true', Bool.not_eq_false'] at c76
        refine WC.skip ?_
        refine WX.next ?_
        refine WC.seq ?_
        obtain ⟨qb, hqb, qbok, qble, qbl⟩ : ∃ z, z = qa ∧ RelOK z ∧ RelLe qa z ∧ z.es.length ≤ qa.es.length + 0 := ⟨_, rfl, qaok, RelLe.refl qa, (by omega)⟩
        rw [show relA (qa) = relA qb from by rw [hqb]]
        refine WC.region ?_
        refine WL.val (OV.load1 (v := ptr g0.r) rfl T.u25 rfl (fun _ hw => cell_own hw (List.mem_append_right _ (List.mem_append_left _ (.tail _ (.tail _ (.tail _ (.head _)))))) rfl)) rfl ?_
        refine WL.val (OV.load1 (v := .int .i64 parts) rfl T.u3 rfl (fun _ hw => cell_own hw (List.mem_append_right _ (List.mem_append_left _ (.tail _ (.tail _ (.tail _ (.tail _ (.head _))))))) rfl)) rfl ?_
        refine WL.call0 (v := .int .i64 (lenOf qb.es parts : Int)) (vs := [ptr qb.r, .int .i64 parts]) (by kernel_rfl) (by rw [qble.r, qale.r, leq.r, g3r]; rfl) rfl (fun w' hw' => len_calls qb qbok parts w' hw'.holds) ?_
        refine WL.nil ?_
        refine WX.next ?_
        refine WC.region ?_
        refine WL.val (OV.load1 (v := .int .i64 (k : Int)) rfl T.u3 rfl (fun _ hw => cell_own hw (List.mem_append_right _ (List.mem_append_left _ (.head _))) rfl)) rfl ?_
        first
        | (refine WL.val (OV.addI rfl rfl (by omega)) rfl ?_)
        | (refine WL.val (OV.add rfl rfl) rfl ?_)
        refine WL.focus (ow' := box1 b15 3 (.int .i64 (k : Int)) :: (relA qb ++ ((REb b14 b12 b10 b7 bb8 g0.r parts la lc ysl lb lcb ysb) ++ (row 3 1 d.1 x.length d.2 (ints x) :: own l (lr.ob .busy none) :: boxA F)))) (perm_cat [relA qb, [box1 b15 3 (.int .i64 (k : Int))], (REb b14 b12 b10 b7 bb8 g0.r parts la lc ysl lb lcb ysb), (row 3 1 d.1 x.length d.2 (ints x) :: own l (lr.ob .busy none) :: boxA F)] [1, 0, 2, 3] (by decide) rfl) (WL.store1 (o := 0) rfl rfl rfl T.z3 Nat.zero_lt_one ?_)
        refine WL.nil ?_
        refine WX.block_normal ?_
        refine WX.focus (ow' := own l (lr.ob .busy none) :: (box1 b15 3 (.int .i64 ((k + 1 : Nat) : Int)) :: (relA qb ++ ((REb b14 b12 b10 b7 bb8 g0.r parts la lc ysl lb lcb ysb) ++ (row 3 1 d.1 x.length d.2 (ints x) :: boxA F))))) (perm_cat [[box1 b15 3 (.int .i64 ((k + 1 : Nat) : Int))], relA qb, (REb b14 b12 b10 b7 bb8 g0.r parts la lc ysl lb lcb ysb), [row 3 1 d.1 x.length d.2 (ints x)], [own l (lr.ob .busy none)], boxA F] [4, 0, 1, 2, 3, 5] (by decide) rfl) (WX.roundEnd (fun w' hw => ⟨qb, k + 1, lr.ob .ready none, fun _ => ⟨⟨qbok, leq.trans (qale.trans qble), rfl, by omega⟩, rfl⟩, fun h => (by cases h), ?_⟩))
        exact Hw.Sat.turned ((hw.pick [[own l (lr.ob .ready none)], [box1 b15 3 (.int .i64 ((k + 1 : Nat) : Int))], relA qb, (REb b14 b12 b10 b7 bb8 g0.r parts la lc ysl lb lcb ysb), [row 3 1 d.1 x.length d.2 (ints x)], boxA F] [0, 2, 5, 1, 3] 6 rfl (by decide) (by decide)).perm (List.Perm.of_eq (by simp [cat, CCa])))
  · intro D q0 nn hJ
    obtain ⟨okq, leq, hnn, hql⟩ : RelOK q0 ∧ RelLe g3 q0 ∧ nn = FL.length ∧ q0.es.length ≤ 1048577 + FL.length := hJ
    refine WX.block_normal ?_
    refine WX.next ?_
    refine WC.seq ?_
    refine WC.seq ?_
    refine WC.region ?_
    refine WL.val (OV.load1 (v := .int .i64 (nn : Int)) rfl T.u3 rfl (fun _ hw => cell_own hw (.tail _ (List.mem_append_right _ (List.mem_append_left _ (.head _)))) rfl)) rfl ?_
    refine WL.val (OV.load1 (v := .slice lb ysb.length lcb) rfl T.u29 rfl (fun _ hw => cell_own hw (.tail _ (List.mem_append_right _ (List.mem_append_left _ (.tail _ (.head _))))) rfl)) rfl ?_
    first
    | (refine WL.val (OV.lenSlice rfl T.u29) rfl ?_)
    | (refine WL.val (OV.lenStr rfl T.u29) rfl ?_)
    refine WL.val (OV.neq rfl rfl) rfl ?_
    refine WL.nil ?_
    refine WX.next ?_
    refine WC.condF (show _ = some (Value.bool false) from by exact congrArg (fun b => some (Value.bool b)) (by rw [hnn, hFll]; simp)) ?_
    refine WC.skip ?_
    refine WX.next ?_
    refine WC.seq ?_
    refine WC.focus (ow' := relA q0 ++ ((CCa b15 b14 b12 b10 b7 bb8 g0.r parts la lc ysl lb lcb ysb nn) ++ (own D (.deferred (some [])) :: boxA F))) ((perm_cat [[own D (.deferred (some []))], relA q0, boxA F, (CCa b15 b14 b12 b10 b7 bb8 g0.r parts la lc ysl lb lcb ysb nn)] [1, 3, 0, 2] (by decide) rfl).trans (List.Perm.of_eq (by simp [cat]))) ?_
    refine WC.region ?_
    refine WL.val (OV.load1 (v := ptr g0.r) rfl T.u25 rfl (fun _ hw => cell_own hw (List.mem_append_right _ (List.mem_append_left _ (.tail _ (.tail _ (.tail _ (.head _)))))) rfl)) rfl ?_
    refine WL.val (OV.load1 (v := .int .i64 parts) rfl T.u3 rfl (fun _ hw => cell_own hw (List.mem_append_right _ (List.mem_append_left _ (.tail _ (.tail _ (.tail _ (.tail _ (.head _))))))) rfl)) rfl ?_
    refine WL.callTA (ι := RelG × Option Addr × Nat × List Col) (vs := [ptr q0.r, .int .i64 parts]) (vv := fun q => .slice q.2.1 q.2.2.2.length q.2.2.1) (pp := fun q => q.2.2.2.map Col.l = selR (rp q0) parts [] [] ∧ RelOK q.1 ∧ RelLe q0 q.1 ∧ q.1.es = q0.es) (relA q0) (AA := fun q => relA q.1 ++ lstA q.2.1 q.2.2.1 q.2.2.2) rfl (by kernel_rfl) (by rw [leq.r, g3r]; rfl) rfl (fun w' hw' hH => (rows_calls q0 okq parts w' hH).mono (fun en w'' ⟨g', la, lc, ys, h1, h2, h3, h4, h5, h6⟩ => ⟨(g', la, lc, ys), h1, ⟨h2, h3, h4, h5⟩, h6⟩)) ?_
    rintro ⟨g4, la2, lc2, ys2⟩ hpp
    obtain ⟨hys2, g4ok, g4le, g4es⟩ : ys2.map Col.l = selR (rp q0) parts [] [] ∧ RelOK g4 ∧ RelLe q0 g4 ∧ g4.es = q0.es := hpp
    have hys2n : ys2.length ≤ q0.es.length := sel_all_len hys2
    rw [List.append_assoc]
    obtain ⟨FM, hFM⟩ : ∃ FM, FM = selR (rp g4) F.parts [] [] := ⟨_, rfl⟩
    have hFMy : FM = ys2.map Col.l := by rw [hFM, hFp, hys2]; unfold rp; rw [g4es]
    have hFml : FM.length = ys2.length := by rw [hFMy, List.length_map]
    have hbl2 : ∀ r ∈ ys2.map Col.l, r.length = q0.width ∧ i64s r := by rw [hys2]; exact sel_lens okq
    have hbw2 := okq.wl
    have hF4 : QR g4.width [] [] F.ls F.ks F.b := by rw [g4le.width, leq.width]; exact hF3
    have hFc4 : F.col ∈ g4.cols := g4le.cols _ (leq.cols _ hFc3)
    have g4r : g4.r = g0.r := g4le.r.trans (leq.r.trans g3r)
    have hy2l : ys2.length ≤ 1099511627776 := by have := okq.el; omega
    refine WL.alloc T.zr29 rfl ?_
    intro b17
    refine WL.store1 (o := 0) rfl rfl rfl T.z29 Nat.zero_lt_one ?_
    refine WL.nil ?_
    refine WX.next ?_
    refine WC.seq ?_
    refine WC.region ?_
    refine WL.focus (ow' := box1 b15 3 (.int .i64 (nn : Int)) :: (box1 b17 29 (.slice la2 ys2.length lc2) :: (relA g4 ++ (lstA la2 lc2 ys2 ++ ((REb b14 b12 b10 b7 bb8 g0.r parts la lc ysl lb lcb ysb) ++ (own D (.deferred (some [])) :: boxA F)))))) (perm_cat [[box1 b17 29 (.slice la2 ys2.length lc2)], relA g4, lstA la2 lc2 ys2, [box1 b15 3 (.int .i64 (nn : Int))], (REb b14 b12 b10 b7 bb8 g0.r parts la lc ysl lb lcb ysb), (own D (.deferred (some [])) :: boxA F)] [3, 0, 1, 2, 4, 5] (by decide) rfl) (WL.store1 (o := 0) rfl rfl rfl T.z3 Nat.zero_lt_one ?_)
    refine WL.nil ?_
    refine WX.next ?_
    refine WC.seq ?_
    refine WC.seq ?_
    refine WC.focus (ow' := (relA g4 ++ boxA F) ++ ((CCb b17 b15 b14 b12 b10 b7 bb8 g0.r parts la lc ysl lb lcb ysb la2 lc2 ys2 0) ++ mkA [D])) ((List.Perm.of_eq (by simp [cat, CCb, mkA])).trans (perm_cat [[box1 b15 3 (.int .i64 0)], [box1 b17 29 (.slice la2 ys2.length lc2)], relA g4, lstA la2 lc2 ys2, (REb b14 b12 b10 b7 bb8 g0.r parts la lc ysl lb lcb ysb), [own D (.deferred (some []))], boxA F] [2, 6, 0, 1, 3, 4, 5] (by decide) rfl)) ?_
    refine WC.region ?_
    refine WL.val (OV.move rfl) rfl ?_
    refine WL.nil ?_
    refine WX.next ?_
    refine WC.block ?_
    refine WC.rangeFunc (RA := fun q => relA q ++ boxA F) (CC := fun nn : Nat => (CCb b17 b15 b14 b12 b10 b7 bb8 g0.r parts la lc ysl lb lcb ysb la2 lc2 ys2 nn)) (EI := EIr) (arg := argr) (xs := FM) (g0 := g4) (y0 := 0) (R01 := fun q => RelOK q ∧ RelLe g4 q ∧ q.es = g4.es) (Mono := fun q => RelLe g4 q) (gf := 30) (caps := F.caps) (ow := mkA [D]) rfl rfl (by kernel_rfl) rfl (fun w' _ => by rw [hFM]; exact find1_iter F g4 g4ok [] [] hF4 (hFr.trans g4r.symm) hFc4 w')
      (fun k q nn => RelLe g4 q ∧ nn = k) (fun _ _ _ _ => False) (fun q hq => ⟨hq.2.1, rfl⟩) (fun k q y h => h.1) ?_ ?_ ?_
    · rintro l lr k q0 nn d W x hxs hJ hS
      obtain ⟨leq4, hnn⟩ : RelLe g4 q0 ∧ nn = k := hJ
      subst hnn
      have hkl : nn < FM.length := (List.getElem?_eq_some_iff.1 hxs).1
      obtain ⟨k, hk⟩ : ∃ k, k = nn := ⟨_, rfl⟩
      rw [← hk] at hS ⊢
      rw [← hk] at hkl hxs
      clear hk
      have hl2 := lst_addr (lc := lc2) hS (.tail _ (List.mem_append_right _ (List.mem_append_right _ (List.mem_append_left _ (.tail _ (.tail _ (List.mem_append_left _ (.head _))))))))
      refine WC.region ?_
      refine WL.val (OV.assign rfl) rfl ?_
      refine WL.nil ?_
      refine WX.begin ?_
      refine WC.focus (ow' := (relA q0 ++ boxA F) ++ ((CCb b17 b15 b14 b12 b10 b7 bb8 g0.r parts la lc ysl lb lcb ysb la2 lc2 ys2 k) ++ (row 3 1 d.1 x.length d.2 (ints x) :: own l (lr.ob .busy none) :: []))) (perm_cat [[own l (lr.ob .busy none)], [row 3 1 d.1 x.length d.2 (ints x)], (relA q0 ++ boxA F), (CCb b17 b15 b14 b12 b10 b7 bb8 g0.r parts la lc ysl lb lcb ysb la2 lc2 ys2 k)] [2, 3, 1, 0] (by decide) rfl) ?_
      refine WC.block ?_
      refine WC.seq ?_
      refine WC.seq ?_
      refine WC.region ?_
      refine WL.val (OV.load1 (v := .int .i64 (k : Int)) rfl T.u3 rfl (fun _ hw => cell_own hw (List.mem_append_right _ (List.mem_append_left _ (.head _))) rfl)) rfl ?_
      refine WL.val (OV.load1 (v := .slice la2 ys2.length lc2) rfl T.u29 rfl (fun _ hw => cell_own hw (List.mem_append_right _ (List.mem_append_left _ (.tail _ (.head _)))) rfl)) rfl ?_
      first
      | (refine WL.val (OV.lenSlice rfl T.u29) rfl ?_)
      | (refine WL.val (OV.lenStr rfl T.u29) rfl ?_)
      refine WL.val (OV.geq rfl rfl) rfl ?_
      refine WL.val (OV.move rfl) rfl ?_
      refine WL.known (t := 97) (b := false) rfl (by exact decide_eq_false (by omega)) ?_
      refine WL.go (b := false) rfl rfl rfl ?_
      refine WL.val (OV.move rfl) rfl ?_
      refine WL.go (b := false) rfl rfl rfl ?_
      refine WL.val (OV.load1 (v := .slice la2 ys2.length lc2) rfl T.u29 rfl (fun _ hw => cell_own hw (List.mem_append_right _ (List.mem_append_left _ (.tail _ (.head _)))) rfl)) rfl ?_
      refine WL.go (b := false) rfl rfl rfl ?_
      refine WL.val (OV.load1 (v := .int .i64 (k : Int)) rfl T.u3 rfl (fun _ hw => cell_own hw (List.mem_append_right _ (List.mem_append_left _ (.head _))) rfl)) rfl ?_
      refine WL.go (b := false) rfl rfl rfl ?_
      obtain ⟨y, hy, hym, hyl⟩ := col_at hFMy.symm (k := k) (by omega)
      have hyx : x = y.l := Option.some.inj (hxs.symm.trans hyl)
      have hyn : y.l.length ≤ 1099511627776 := by have := (hbl2 y.l (List.mem_map.2 ⟨y, hym, rfl⟩)).1; omega
      obtain ⟨q5, hq5⟩ := hl2 (by omega)
      refine WL.val (OV.indexSliceA (a := ⟨q5, 0, none⟩) (i := k) (show _ = some (Value.slice (some ⟨q5, 0, none⟩) ys2.length lc2) by rw [← hq5]; rfl) rfl T.u29 T.z23 (by omega)) rfl ?_
      refine WL.go (b := false) rfl rfl rfl ?_
      refine WL.val (OV.load1 (v := encC y) rfl T.u23 rfl (fun _ hw => row_cellsE hw hq5 (List.mem_append_right _ (List.mem_append_left _ (.tail _ (.tail _ (List.mem_append_left _ (.head _)))))) k _ (by rw [List.getElem?_map, hy]; rfl))) rfl ?_
      refine WL.go (b := false) rfl rfl rfl ?_
      refine WL.call0 (v := .bool true) (vs := [argr x d, encC y]) (by kernel_rfl) rfl rfl (fun w' hw' => (same_calls x y.l d.1 y.a x.length d.2 y.l.length y.c (by rw [hyx]; exact hyn) hyn w' (RI.of_row (c := d.2) hw' (List.mem_append_right _ (List.mem_append_right _ (.head _)))) (RI.of_row (c := y.c) hw' (List.mem_append_right _ (List.mem_append_left _ (.tail _ (.tail _ (List.mem_append_left _ (colmem hym)))))))).mono (fun en w'' ⟨h1, h2⟩ => ⟨h1.trans (by rw [decide_eq_true hyx]), h2⟩)) ?_
      refine WL.go (b := false) rfl rfl rfl ?_
      refine WL.val (OV.not rfl) rfl ?_
      refine WL.val (OV.pickF rfl rfl) rfl ?_
      refine WL.nil ?_
      refine WX.next ?_
      refine WC.condF rfl ?_
      refine WC.skip ?_
      refine WX.next ?_
      refine WC.region ?_
      refine WL.val (OV.load1 (v := .int .i64 (k : Int)) rfl T.u3 rfl (fun _ hw => cell_own hw (List.mem_append_right _ (List.mem_append_left _ (.head _))) rfl)) rfl ?_
      first
      | (refine WL.val (OV.addI rfl rfl (by omega)) rfl ?_)
      | (refine WL.val (OV.add rfl rfl) rfl ?_)
      refine WL.focus (ow' := box1 b15 3 (.int .i64 (k : Int)) :: ((relA q0 ++ boxA F) ++ ((box1 b17 29 (.slice la2 ys2.length lc2) :: (lstA la2 lc2 ys2 ++ (REb b14 b12 b10 b7 bb8 g0.r parts la lc ysl lb lcb ysb))) ++ (row 3 1 d.1 x.length d.2 (ints x) :: own l (lr.ob .busy none) :: [])))) (perm_cat [(relA q0 ++ boxA F), [box1 b15 3 (.int .i64 (k : Int))], (box1 b17 29 (.slice la2 ys2.length lc2) :: (lstA la2 lc2 ys2 ++ (REb b14 b12 b10 b7 bb8 g0.r parts la lc ysl lb lcb ysb))), (row 3 1 d.1 x.length d.2 (ints x) :: own l (lr.ob .busy none) :: [])] [1, 0, 2, 3] (by decide) rfl) (WL.store1 (o := 0) rfl rfl rfl T.z3 Nat.zero_lt_one ?_)
      refine WL.nil ?_
      refine WX.block_normal ?_
      refine WX.focus (ow' := own l (lr.ob .busy none) :: (box1 b15 3 (.int .i64 ((k + 1 : Nat) : Int)) :: ((relA q0 ++ boxA F) ++ ((box1 b17 29 (.slice la2 ys2.length lc2) :: (lstA la2 lc2 ys2 ++ (REb b14 b12 b10 b7 bb8 g0.r parts la lc ysl lb lcb ysb))) ++ [row 3 1 d.1 x.length d.2 (ints x)])))) (perm_cat [[box1 b15 3 (.int .i64 ((k + 1 : Nat) : Int))], (relA q0 ++ boxA F), (box1 b17 29 (.slice la2 ys2.length lc2) :: (lstA la2 lc2 ys2 ++ (REb b14 b12 b10 b7 bb8 g0.r parts la lc ysl lb lcb ysb))), [row 3 1 d.1 x.length d.2 (ints x)], [own l (lr.ob .busy none)]] [4, 0, 1, 2, 3] (by decide) rfl) (WX.roundEnd (fun w' hw => ⟨q0, k + 1, lr.ob .ready none, fun _ => ⟨⟨leq4, rfl⟩, rfl⟩, fun h => (by cases h), ?_⟩))
      exact Hw.Sat.turned (hw.pick [[own l (lr.ob .ready none)], [box1 b15 3 (.int .i64 ((k + 1 : Nat) : Int))], (relA q0 ++ boxA F), (box1 b17 29 (.slice la2 ys2.length lc2) :: (lstA la2 lc2 ys2 ++ (REb b14 b12 b10 b7 bb8 g0.r parts la lc ysl lb lcb ysb))), [row 3 1 d.1 x.length d.2 (ints x)]] [0, 2, 1, 3] 5 rfl (by decide) (by decide))
    · intro D2 q0 nn hJ
      obtain ⟨leq4, hnn⟩ : RelLe g4 q0 ∧ nn = FM.length := hJ
      refine WX.block_normal ?_
      refine WX.next ?_
      refine WC.seq ?_
      refine WC.region ?_
      refine WL.val (OV.load1 (v := .int .i64 (nn : Int)) rfl T.u3 rfl (fun _ hw => cell_own hw (.tail _ (List.mem_append_right _ (List.mem_append_left _ (.head _)))) rfl)) rfl ?_
      refine WL.val (OV.load1 (v := .slice la2 ys2.length lc2) rfl T.u29 rfl (fun _ hw => cell_own hw (.tail _ (List.mem_append_right _ (List.mem_append_left _ (.tail _ (.head _))))) rfl)) rfl ?_
      first
      | (refine WL.val (OV.lenSlice rfl T.u29) rfl ?_)
      | (refine WL.val (OV.lenStr rfl T.u29) rfl ?_)
      refine WL.val (OV.eql rfl rfl) rfl ?_
      refine WL.focus (ow' := box1 bb8 4 (.bool false) :: ([own D2 (.deferred (some []))] ++ ((relA q0 ++ boxA F) ++ ([box1 b15 3 (.int .i64 (nn : Int)), box1 b17 29 (.slice la2 ys2.length lc2)] ++ (lstA la2 lc2 ys2 ++ ([box1 b14 29 (.slice lb ysb.length lcb), box1 b12 29 (.slice la ysl.length lc), box1 b10 25 (ptr g0.r), box1 b7 3 (.int .i64 parts)] ++ (lstA la lc ysl ++ (lstA lb lcb ysb ++ mkA [D])))))))) ((perm_cat [[own D2 (.deferred (some []))], (relA q0 ++ boxA F), [box1 b15 3 (.int .i64 (nn : Int)), box1 b17 29 (.slice la2 ys2.length lc2)], lstA la2 lc2 ys2, [box1 b14 29 (.slice lb ysb.length lcb), box1 b12 29 (.slice la ysl.length lc), box1 b10 25 (ptr g0.r), box1 b7 3 (.int .i64 parts)], [box1 bb8 4 (.bool false)], lstA la lc ysl, lstA lb lcb ysb, mkA [D]] [5, 0, 1, 2, 3, 4, 6, 7, 8] (by decide) rfl).trans (List.Perm.of_eq (by simp [cat, CCb, REb]))) (WL.store1 (o := 0) rfl rfl rfl T.z4 Nat.zero_lt_one ?_)
      refine WL.nil ?_
      refine WX.next ?_
      refine WC.ret ?_
      have hb : decide ((nn : Int) = (ys2.length : Int)) = true := decide_eq_true (by rw [hnn, hFml])
      refine WX.leave rfl (WR.focus (ow' := mkA [D2, D] ++ (box1 bb8 4 (.bool (decide ((nn : Int) = (ys2.length : Int)))) :: ((relA q0 ++ boxA F) ++ ([box1 b15 3 (.int .i64 (nn : Int)), box1 b17 29 (.slice la2 ys2.length lc2)] ++ (lstA la2 lc2 ys2 ++ ([box1 b14 29 (.slice lb ysb.length lcb), box1 b12 29 (.slice la ysl.length lc), box1 b10 25 (ptr g0.r), box1 b7 3 (.int .i64 parts)] ++ (lstA la lc ysl ++ lstA lb lcb ysb))))))) ((List.Perm.of_eq (by simp [cat, mkA])).trans (perm_cat [[box1 bb8 4 (.bool (decide ((nn : Int) = (ys2.length : Int))))], [own D2 (.deferred (some []))], (relA q0 ++ boxA F), [box1 b15 3 (.int .i64 (nn : Int)), box1 b17 29 (.slice la2 ys2.length lc2)], lstA la2 lc2 ys2, [box1 b14 29 (.slice lb ysb.length lcb), box1 b12 29 (.slice la ysl.length lc), box1 b10 25 (ptr g0.r), box1 b7 3 (.int .i64 parts)], lstA la lc ysl, lstA lb lcb ysb, mkA [D]] [1, 8, 0, 2, 3, 4, 5, 6, 7] (by decide) rfl)) (WR.marks [D2, D] (WR.retC1 (v := .bool true) rfl rfl T.u4 rfl (fun w' hw => ?_) (fun w' hw => ⟨rfl, hw.fr⟩))))
      rw [← hb]
      exact (cell_at (hw.it _ (.head _)) rfl).1
    · intro D c k g2 y2 hJ
      exact hJ.elim
  · intro D c k g2 y2 hJ
    exact hJ.elim

end Go.Proofs.YtijplknkpkmblaaDoor
