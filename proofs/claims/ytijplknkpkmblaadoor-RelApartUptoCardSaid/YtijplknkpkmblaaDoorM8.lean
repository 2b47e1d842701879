/- Contracts of functions of the program: what each returns and leaves in memory. Printed by gen.py and walk.py. -/
import Derived.Test.YtijplknkpkmblaaDoorM7
namespace Go.Proofs.YtijplknkpkmblaaDoor
open Go Go.Hw
set_option linter.unusedSimpArgs false
set_option linter.unusedVariables false
structure PS where
  i : Nat
  g : RelG
  oa : Option Addr
  oc : Nat
  O : List Col
  fa : Option Addr
  fc : Nat
  F : List Col
  pool : List Col
  Ds : List Nat
structure KS where
  k : Nat
  q : RelG
  b : Nat
  Ds : List Nat
structure ES where
  e : Nat
  q : RelG
  Ds : List Nat
theorem WC.env {P : Program} {Q : Post} {n : Nat} {ds : DS} {e e' : Env} {S : World → Prop} {c : Code} (hs : Sub e' e) (h : WC P Q n ds e' S c) : WC P Q n ds e S c := fun a w ha hw => h a w (ha.sub hs) hw
theorem RI.of_row' {w0 ws w : World} {M I : Nat → Prop} {ow : List Hw.Item} {a : Option Addr} {m c : Nat} {l : List Int} (hl : l.length = m) (hw : Sat w0 M I ws ow w) (hm : row 3 1 a m c (ints l) ∈ ow) : RI w a m l := by
  subst hl
  exact RI.of_row hw hm

set_option maxRecDepth 10000 in
theorem parts_calls (n0 : Int) (bs : List (List (List Int))) (a : Option Addr) (n c : Nat) (w : World) (hr : BLi w a n bs) :
  Calls Tryd.prog 6 #[.int .i64 n0, .slice a n c] w fun e w' => e = .returned (.bool true) ∧ Fr0 w w' := by
  refine enterS (args := [.int .i64 n0, .slice a n c]) (fun _ => False) Tryd.func6 rfl Tryd.ntmps6 rfl rfl ?_
  refine WC.seq ?_
  refine WC.region ?_
  refine WL.alloc T.zr4 rfl ?_
  intro b4
  refine WL.nil ?_
  refine WX.next ?_
  refine WC.seq ?_
  refine WC.region ?_
  refine WL.val (OV.move rfl) rfl ?_
  refine WL.call0 (v := .int .i64 (smallN n0 : Int)) (by kernel_rfl) rfl rfl (fun w' hw' => small_calls n0 w') ?_
  obtain ⟨wd, hwd⟩ : ∃ q, q = smallN n0 := ⟨_, rfl⟩
  have hw5 : wd ≤ 5 := by rw [hwd]; exact smallN_le n0
  rw [← hwd]
  refine WL.val (OV.assign rfl) rfl ?_
  refine WL.nil ?_
  refine WX.next ?_
  refine WC.seq ?_
  refine WC.region ?_
  refine WL.val (OV.move rfl) rfl ?_
  refine WL.callTA (ι := Nat × Nat × Nat) (vv := fun q => .tuple #[ptr q.1, .int .i64 0]) (pp := fun _ => True) [] (AA := fun q => relA (RelG.empty q.1 q.2.1 q.2.2 wd)) rfl (by kernel_rfl) rfl rfl (fun w' hw' hH => (new_calls wd w').mono (fun en w'' ⟨r, mb, ib, h1, h2⟩ => ⟨(r, mb, ib), h1, trivial, h2⟩)) ?_
  rintro ⟨r, mb, ib⟩ _
  refine WL.val (OV.move rfl) rfl ?_
  refine WL.val (OV.extract rfl rfl) rfl ?_
  refine WL.val (OV.extract rfl rfl) rfl ?_
  refine WL.val (OV.assign rfl) rfl ?_
  refine WL.val (OV.assign rfl) rfl ?_
  refine WL.nil ?_
  refine WX.next ?_
  refine WC.seq ?_
  refine WC.seq ?_
  refine WC.region ?_
  refine WL.val (OV.move rfl) rfl ?_
  refine WL.val (OV.eqlPN T.u25 rfl rfl) rfl ?_
  refine WL.val (OV.move rfl) rfl ?_
  refine WL.known (t := 34) (b := false) rfl (by rfl) ?_
  refine WL.go (b := false) rfl rfl rfl ?_
  refine WL.val (OV.move rfl) rfl ?_
  refine WL.go (b := false) rfl rfl rfl ?_
  refine WL.val (OV.neq rfl rfl) rfl ?_
  refine WL.val (OV.pickF rfl rfl) rfl ?_
  refine WL.val (OV.move rfl) rfl ?_
  refine WL.known (t := 38) (b := false) rfl (by rfl) ?_
  refine WL.go (b := false) rfl rfl rfl ?_
  refine WL.call0 (v := .bool true) (by kernel_rfl) rfl rfl (fun w' hw' => head_calls w') ?_
  refine WL.go (b := false) rfl rfl rfl ?_
  refine WL.val (OV.not rfl) rfl ?_
  refine WL.val (OV.pickF rfl rfl) rfl ?_
  refine WL.nil ?_
  refine WX.next ?_
  refine WC.condF rfl ?_
  refine WC.skip ?_
  refine WX.next ?_
  refine WC.seq ?_
  refine WC.region ?_
  refine WL.val (OV.assign rfl) rfl ?_
  refine WL.nil ?_
  refine WX.next ?_
  refine WC.seq ?_
  refine WC.region ?_
  refine WL.val (OV.assign rfl) rfl ?_
  refine WL.nil ?_
  refine WX.next ?_
  refine WC.seq ?_
  refine WC.region ?_
  refine WL.val (OV.assign rfl) rfl ?_
  refine WL.nil ?_
  refine WX.next ?_
  refine WC.seq ?_
  refine WC.seq ?_
  refine WC.region ?_
  refine WL.val (OV.assign rfl) rfl ?_
  refine WL.nil ?_
  refine WX.next ?_
  refine WC.block ?_
  refine WC.loop3 (fun (t : Nat) (ca : Option Addr) (cc : Nat) => [(1, .slice a n c), (4, ptr b4), (5, .int .i64 (wd : Int)), (6, ptr r), (8, .slice none 0 0), (9, .slice none 0 0), (10, .slice ca t cc), (11, .int .i64 (t : Int))])
      (fun t ca cc w' => t ≤ wd ∧ Sat w (fun _ => False) (fun b => b < w.heap.size) w (row 3 1 ca t cc (ints ((colsL wd).take t)) :: (relA (RelG.empty r mb ib wd) ++ [box1 b4 4 (.bool false)])) w')
      (fun t _ _ => wd - t) 0 none 0 ⟨rfl, rfl, rfl, rfl, rfl, rfl, rfl, rfl, trivial⟩ (fun w' hw => ⟨by omega, hw.rowNil 3 1⟩) ?_
  intro t ca cc
  refine WC.pure (fun ht => ?_)
  refine WC.seq ?_
  refine WC.seq ?_
  refine WC.region ?_
  refine WL.val (OV.move rfl) rfl ?_
  refine WL.val (OV.move rfl) rfl ?_
  refine WL.val (OV.lss rfl rfl) rfl ?_
  refine WL.nil ?_
  refine WX.next ?_
  refine WC.cond rfl (fun c44 => ?_) (fun c44 => ?_)
  · try simp only [decide_eq_true_eq, decide_eq_false_iff_not, Bool.not_eq_true', Bool.not_eq_false'] at c44
    refine WC.skip ?_
    refine WX.next ?_
    refine WC.seq ?_
    refine WC.block ?_
    refine WC.region ?_
    refine WL.val (OV.move rfl) rfl ?_
    refine WL.val (OV.move rfl) rfl ?_
    refine WL.buildSlice1 T.u23 T.z3 T.zr3 rfl rfl rfl ?_
    intro b49
    refine WL.focus perm1 (WL.append (news := ints [(t : Int)]) rfl rfl T.apI (fun _ _ => own_src (.tail _ (.head _)) rfl) (ints_one _) ⟨by omega, by unfold maxLen; omega⟩ rfl ?_)
    intro a50 c50
    refine WL.val (OV.assign rfl) rfl ?_
    refine WL.nil ?_
    refine WX.block_normal ?_
    refine WX.next ?_
    refine WC.region ?_
    refine WL.val (OV.move rfl) rfl ?_
    first
    | (refine WL.val (OV.addI rfl rfl (by omega)) rfl ?_)
    | (refine WL.val (OV.add rfl rfl) rfl ?_)
    refine WL.val (OV.assign rfl) rfl ?_
    refine WL.nil ?_
    exact WX.round3 (t + 1) a50 c50 ⟨rfl, rfl, rfl, rfl, rfl, rfl, rfl, rfl, trivial⟩ (fun w' hw => ⟨by omega, by
      rw [colsL_take (by omega), ints_append]
      exact (hw.perm perm1).drop⟩) (by show wd - (t + 1) < wd - t; omega)
  · try simp only [decide_eq_true_eq, decide_eq_false_iff_not, Bool.not_eq_true', Bool.not_eq_false'] at c44
    refine WC.exit ?_
    refine WX.then_exit ?_
    refine WX.then_exit ?_
    refine WX.block_hit ?_
    refine WX.next ?_
    refine WC.seq ?_
    refine WC.seq ?_
    refine WC.region ?_
    refine WL.val (OV.assign rfl) rfl ?_
    refine WL.nil ?_
    refine WX.next ?_
    refine WC.block ?_
    have hte : t = wd := by omega
    rw [hte, List.take_of_length_le (by rw [colsL_length]; exact Nat.le_refl _)]
    have e1 := hr.len
    have e2 := hr.sum
    refine WC.loopM (ι := PS) (fun x => mks x.Ds) (fun x => [(1, .slice a n c), (4, ptr b4), (5, .int .i64 (wd : Int)), (6, ptr x.g.r), (8, .slice x.oa x.O.length x.oc), (9, .slice x.fa x.F.length x.fc), (10, .slice ca wd cc), (12, .int .i64 (x.i : Int))])
        (fun x w' => (x.i ≤ n ∧ RelOK x.g ∧ x.g.width = wd ∧ rp x.g = tag x.O 1 ++ (tag x.F 2 ++ tag [] 4) ∧ x.g.es.length ≤ ((bs.take x.i).map List.length).sum ∧ (∀ c ∈ x.O, c ∈ x.pool) ∧ (∀ c ∈ x.F, c ∈ x.pool)) ∧ Sat w (fun _ => False) (fun b => b < w.heap.size) w (relA x.g ++ TLp b4 x.oa x.oc x.O x.fa x.fc x.F ca cc wd x.pool x.Ds) w')
        (fun x => n - x.i) ⟨0, RelG.empty r mb ib wd, none, 0, [], none, 0, [], [], []⟩ rfl ⟨rfl, rfl, rfl, rfl, rfl, rfl, rfl, rfl, trivial⟩ (fun w' hw => ⟨⟨by show 0 ≤ n; omega, RelOK.empty (by omega), rfl, rfl, by simp [RelG.empty], by simp, by simp⟩, ((hw.rowNil 23 1).rowNil 23 1).perm (perm_cat [[row 23 1 none 0 0 []], [row 23 1 none 0 0 []], [row 3 1 ca wd cc (ints (colsL wd))], relA (RelG.empty r mb ib wd), [box1 b4 4 (.bool false)]] [3, 4, 0, 1, 2] (by decide) rfl)⟩) ?_
    rintro ⟨i, g, oa, oc, O, fa, fc, F, pool, Ds⟩
    refine WC.env (e' := [(1, .slice a n c), (4, ptr b4), (5, .int .i64 (wd : Int)), (6, ptr g.r), (8, .slice oa O.length oc), (9, .slice fa F.length fc), (10, .slice ca wd cc), (12, .int .i64 (i : Int))]) ⟨rfl, rfl, rfl, rfl, rfl, rfl, rfl, rfl, trivial⟩ ?_
    refine WC.weak (S' := fun w' => (i ≤ n ∧ RelOK g ∧ g.width = wd ∧ rp g = tag O 1 ++ (tag F 2 ++ tag [] 4) ∧ g.es.length ≤ ((bs.take i).map List.length).sum ∧ (∀ c ∈ O, c ∈ pool) ∧ (∀ c ∈ F, c ∈ pool)) ∧ Sat w (fun _ => False) (fun b => b < w.heap.size) w (relA g ++ TLp b4 oa oc O fa fc F ca cc wd pool Ds) w') (fun _ h => h) ?_
    refine WC.pure (fun hi => ?_)
    obtain ⟨hi, hgok, hgw, hgrp, hgl, hO, hF⟩ := hi
    refine WC.seq ?_
    refine WC.seq ?_
    refine WC.region ?_
    refine WL.val (OV.move rfl) rfl ?_
    refine WL.val (OV.move rfl) rfl ?_
    first
    | (refine WL.val (OV.lenSlice rfl T.u22) rfl ?_)
    | (refine WL.val (OV.lenStr rfl T.u22) rfl ?_)
    refine WL.val (OV.lss rfl rfl) rfl ?_
    refine WL.val (OV.move rfl) rfl ?_
    refine WL.split (t := 55) rfl (fun g55 => ?_) (fun g55 => ?_)
    · try simp only [decide_eq_true_eq, decide_eq_false_iff_not, Bool.not_eq_true', Bool.not_eq_false'] at g55
      refine WL.go (b := true) rfl rfl rfl ?_
      refine WL.val (OV.move rfl) rfl ?_
      refine WL.go (b := true) rfl rfl rfl ?_
      refine WL.val (OV.lss rfl rfl) rfl ?_
      refine WL.val (OV.pickT rfl rfl) rfl ?_
      refine WL.nil ?_
      refine WX.next ?_
      refine WC.cond rfl (fun c58 => ?_) (fun c58 => ?_)
      · try simp only [decide_eq_true_eq, decide_eq_false_iff_not, Bool.not_eq_true', Bool.not_eq_false'] at c58
        refine WC.skip ?_
        refine WX.next ?_
        refine WC.seq ?_
        refine WC.block ?_
        refine WC.seq ?_
        refine WC.region ?_
        refine WL.val (OV.assign rfl) rfl ?_
        refine WL.nil ?_
        refine WX.next ?_
        refine WC.seq ?_
        refine WC.region ?_
        refine WL.val (OV.move rfl) rfl ?_
        refine WL.val (OV.move rfl) rfl ?_
        obtain ⟨q1, ls, a', c', rfl, hls, hgd, hcell, hrl, hsum, hsl⟩ := hr.get (i := i) (by omega)
        refine WL.val (OV.indexSliceA (i := i) rfl rfl T.u22 T.z45 (by omega)) rfl ?_
        refine WL.val (OV.loadN (cs := [.slice a' ls.length c']) rfl T.u45 rfl T.z45 (fun _ hw j v hj => ?_)) rfl ?_
        · have hj0 : j = 0 := by have := (List.getElem?_eq_some_iff.1 hj).1; simpa using this
          subst hj0
          simp only [List.getElem?_cons_zero, Option.some.injEq] at hj
          subst hj
          rw [addr_add0]
          exact hw.keeps _ _ hcell
        refine WL.val (OV.move rfl) rfl ?_
        refine WL.callTA (ι := Option Addr × Nat × List Col) (vv := fun q => .slice q.1 q.2.2.length q.2.1) (pp := fun q => q.2.2.map Col.l = ls.map (fun l => wideL l wd)) [] (AA := fun q => lstA q.1 q.2.1 q.2.2) rfl (by kernel_rfl) rfl rfl (fun w' hw' hH => (brought_calls ls a' ls.length c' wd (by omega) (by omega) w' (hrl.keeps hw'.keeps)).mono (fun en w'' ⟨la, lc, ys, h1, h2, h3⟩ => ⟨(la, lc, ys), h1, h2, h3⟩)) ?_
        rintro ⟨la, lc, ys⟩ hys
        have hys : ys.map Col.l = ls.map (fun l => wideL l wd) := hys
        have hyl0 : ys.length = ls.length := by have := congrArg List.length hys; simpa using this
        refine WL.alloc T.zr29 rfl ?_
        intro b14
        refine WL.store1 (o := 0) rfl rfl rfl T.z29 Nat.zero_lt_one ?_
        refine WL.nil ?_
        refine WX.next ?_
        refine WC.seq ?_
        refine WC.seq ?_
        refine WC.region ?_
        refine WL.val (OV.assign rfl) rfl ?_
        refine WL.nil ?_
        refine WX.next ?_
        refine WC.block ?_
        refine WC.weak (S' := fun w' => (0 < ys.length → ∃ q, la = some ⟨q, 0, none⟩) ∧ Sat w (fun _ => False) (fun b => b < w.heap.size) w (relA g ++ (rowL none 0 [] :: box1 b14 29 (.slice la ys.length lc) :: rowL la lc ys :: TLp b4 oa oc O fa fc F ca cc wd (pool ++ ys) Ds)) w') (fun w' hw => ⟨lst_addr hw (.tail _ (.head _)), ((hw.rowNil 23 1).perm (ow' := cat [relA g, [row 23 1 none 0 0 []], [box1 b14 29 (.slice la ys.length lc)], [rowL la lc ys], [box1 b4 4 (.bool false), rowL oa oc O, rowL fa fc F, row 3 1 ca wd cc (ints (colsL wd))], pool.flatMap colA, ys.flatMap colA, mkA Ds]) (perm_cat [[row 23 1 none 0 0 []], [box1 b14 29 (.slice la ys.length lc)], [rowL la lc ys], ys.flatMap colA, relA g, [box1 b4 4 (.bool false), rowL oa oc O, rowL fa fc F, row 3 1 ca wd cc (ints (colsL wd))], pool.flatMap colA, mkA Ds] [4, 0, 1, 2, 5, 6, 3, 7] (by decide) rfl)).perm (List.Perm.of_eq (by (simp [cat, TLp]); rfl))⟩) ?_
        refine WC.pure (fun hla => ?_)
        refine WC.loop5 (fun (k : Nat) (q : RelG) (xa : Option Addr) (xc : Nat) (X : List Col) => [(1, .slice (some q1) n c), (4, ptr b4), (5, .int .i64 (wd : Int)), (6, ptr g.r), (8, .slice oa O.length oc), (9, .slice fa F.length fc), (10, .slice ca wd cc), (12, .int .i64 (i : Int)), (13, .slice xa X.length xc), (14, ptr b14), (15, .int .i64 (k : Int))])
            (fun k q xa xc X w' => (k ≤ ys.length ∧ RelOK q ∧ q.width = wd ∧ q.r = g.r ∧ rp q = tag O 1 ++ (tag F 2 ++ tag X 4) ∧ (∀ c ∈ X, c ∈ ys) ∧ (∀ (j : Nat) (y : Col), j < k → ys[j]? = some y → y.l ∈ (rp q).map (·.1)) ∧ q.es.length ≤ ((bs.take i).map List.length).sum + k) ∧ Sat w (fun _ => False) (fun b => b < w.heap.size) w (relA q ++ (rowL xa xc X :: box1 b14 29 (.slice la ys.length lc) :: rowL la lc ys :: TLp b4 oa oc O fa fc F ca cc wd (pool ++ ys) Ds)) w')
            (fun k _ _ _ _ => ys.length - k) 0 g none 0 [] ⟨rfl, rfl, rfl, rfl, rfl, rfl, rfl, rfl, rfl, rfl, rfl, trivial⟩ (fun w' hw => ⟨⟨by omega, hgok, hgw, rfl, hgrp, by simp, by intro j y hj; omega, by omega⟩, hw⟩) ?_
        intro k q xa xc X
        refine WC.pure (fun hk => ?_)
        obtain ⟨hk, hqok, hqw, hqr, hqrp, hXy, hall, hqel⟩ := hk
        refine WC.seq ?_
        refine WC.seq ?_
        refine WC.region ?_
        refine WL.val (OV.move rfl) rfl ?_
        refine WL.val (OV.load1 (v := .slice la ys.length lc) rfl T.u29 rfl (fun _ hw => cell_own hw (List.mem_append_right _ (.tail _ (.head _))) rfl)) rfl ?_
        first
        | (refine WL.val (OV.lenSlice rfl T.u29) rfl ?_)
        | (refine WL.val (OV.lenStr rfl T.u29) rfl ?_)
        refine WL.val (OV.lss rfl rfl) rfl ?_
        refine WL.nil ?_
        refine WX.next ?_
        refine WC.cond rfl (fun c70 => ?_) (fun c70 => ?_)
        · try simp only [decide_eq_true_eq, decide_eq_false_iff_not, Bool.not_eq_true', Bool.not_eq_false'] at c70
          refine WC.skip ?_
          refine WX.next ?_
          refine WC.seq ?_
          refine WC.block ?_
          refine WC.seq ?_
          refine WC.region ?_
          refine WL.val (OV.move rfl) rfl ?_
          refine WL.val (OV.load1 (v := .slice la ys.length lc) rfl T.u29 rfl (fun _ hw => cell_own hw (List.mem_append_right _ (.tail _ (.head _))) rfl)) rfl ?_
          refine WL.val (OV.move rfl) rfl ?_
          obtain ⟨y, hy, hym, hyl, hyi, hyw⟩ := col_wide hys hrl.i64 (k := k) (by omega)
          have hyn : y.l.length ≤ 1099511627776 := by omega
          obtain ⟨q5, hq5⟩ := hla (by omega)
          have hq0l : q.es.length = O.length + (F.length + X.length) := by have h1 := es_len hqrp; simpa [tag_length] using h1
          have hql := tag_lens hqok hqrp
          have hqwl := hqok.wl
          have hOl : ∀ l ∈ O.map Col.l, l.length ≤ 1099511627776 ∧ i64s l := fun l hl => by obtain ⟨c, hc, rfl⟩ := List.mem_map.1 hl; have := hql c (.inl hc); exact ⟨by omega, this.2⟩
          have hFl : ∀ l ∈ F.map Col.l, l.length ≤ 1099511627776 ∧ i64s l := fun l hl => by obtain ⟨c, hc, rfl⟩ := List.mem_map.1 hl; have := hql c (.inr (.inl hc)); exact ⟨by omega, this.2⟩
          have hXl : ∀ l ∈ X.map Col.l, l.length ≤ 1099511627776 ∧ i64s l := fun l hl => by obtain ⟨c, hc, rfl⟩ := List.mem_map.1 hl; have := hql c (.inr (.inr hc)); exact ⟨by omega, this.2⟩
          have hOp : ∀ c ∈ O, c ∈ pool ++ ys := fun c hc => List.mem_append_left _ (hO c hc)
          have hFp : ∀ c ∈ F, c ∈ pool ++ ys := fun c hc => List.mem_append_left _ (hF c hc)
          have hXp : ∀ c ∈ X, c ∈ pool ++ ys := fun c hc => List.mem_append_right _ (hXy c hc)
          refine WL.val (OV.indexSliceA (a := ⟨q5, 0, none⟩) (i := k) (show _ = some (Value.slice (some ⟨q5, 0, none⟩) ys.length lc) by rw [← hq5]; rfl) rfl T.u29 T.z23 (by omega)) rfl ?_
          refine WL.val (OV.load1 (v := encC y) rfl T.u23 rfl (fun _ hw => row_cellsE hw hq5 (List.mem_append_right _ (.tail _ (.tail _ (.head _)))) k _ (by rw [List.getElem?_map, hy]; rfl))) rfl ?_
          refine WL.call0 (v := .bool (decide (y.l ∈ O.map Col.l))) (vs := [.slice oa O.length oc, encC y]) (by kernel_rfl) rfl rfl (fun w' hw' => has_calls (O.map Col.l) y.l oa y.a O.length oc y.l.length y.c hyn w' (RLi.of_lst (c := oc) hw' (lst_sub (pool := pool ++ ys) (List.mem_append_right _ (.tail _ (.tail _ (.tail _ (.tail _ (.head _)))))) hOp (fun i hi => List.mem_append_right _ (.tail _ (.tail _ (.tail _ (.tail _ (.tail _ (.tail _ (.tail _ (List.mem_append_left _ hi)))))))))) (by omega) (fun l hl => (hOl l hl).1) (fun l hl => (hOl l hl).2)) (RI.of_row (c := y.c) hw' (List.mem_append_right _ (.tail _ (.tail _ (.tail _ (.tail _ (.tail _ (.tail _ (.tail _ (List.mem_append_left _ (List.mem_flatMap.2 ⟨y, List.mem_append_right _ hym, .head _⟩)))))))))))) ?_
          refine WL.val (OV.move rfl) rfl ?_
          refine WL.split (t := 79) rfl (fun g79 => ?_) (fun g79 => ?_)
          · try simp only [decide_eq_true_eq, decide_eq_false_iff_not, Bool.not_eq_true', Bool.not_eq_false'] at g79
            refine WL.skip (b := true) rfl rfl rfl rfl ?_
            refine WL.skip (b := true) rfl rfl rfl rfl ?_
            refine WL.skip (b := true) rfl rfl rfl rfl ?_
            refine WL.skip (b := true) rfl rfl rfl rfl ?_
            refine WL.skip (b := true) rfl rfl rfl rfl ?_
            refine WL.skip (b := true) rfl rfl rfl rfl ?_
            refine WL.val (OV.pickT rfl rfl) rfl ?_
            refine WL.val (OV.move rfl) rfl ?_
            refine WL.skip (b := true) rfl rfl rfl rfl ?_
            refine WL.skip (b := true) rfl rfl rfl rfl ?_
            refine WL.skip (b := true) rfl rfl rfl rfl ?_
            refine WL.skip (b := true) rfl rfl rfl rfl ?_
            refine WL.skip (b := true) rfl rfl rfl rfl ?_
            refine WL.skip (b := true) rfl rfl rfl rfl ?_
            refine WL.val (OV.pickT rfl rfl) rfl ?_
            refine WL.val ((OV.assign rfl).cast (u := .bool (decide (y.l ∈ (rp q).map (·.1)))) (by congr 1; rw [decide_eq_true (show y.l ∈ (rp q).map (·.1) from by rw [hqrp, rows_tags]; exact List.mem_append_left _ (by simpa using g79))])) rfl ?_
            refine WL.nil ?_
            refine WX.next ?_
            refine WC.seq ?_
            refine WC.region ?_
            refine WL.val (OV.move rfl) rfl ?_
            refine WL.val (OV.load1 (v := .slice la ys.length lc) rfl T.u29 rfl (fun _ hw => cell_own hw (List.mem_append_right _ (.tail _ (.head _))) rfl)) rfl ?_
            refine WL.val (OV.move rfl) rfl ?_
            refine WL.val (OV.indexSliceA (a := ⟨q5, 0, none⟩) (i := k) (show _ = some (Value.slice (some ⟨q5, 0, none⟩) ys.length lc) by rw [← hq5]; rfl) rfl T.u29 T.z23 (by omega)) rfl ?_
            refine WL.val (OV.load1 (v := encC y) rfl T.u23 rfl (fun _ hw => row_cellsE hw hq5 (List.mem_append_right _ (.tail _ (.tail _ (.head _)))) k _ (by rw [List.getElem?_map, hy]; rfl))) rfl ?_
            have hi64 := hyi
            refine WL.callTA (ι := RelG) (vs := [ptr q.r, encC y]) (vv := fun _ => .tuple #[.bool (addV q.width (rp q) y.l), .int .i64 (addE q.width y.l)]) (pp := fun qq => rp qq = addRP q.width (rp q) y.l ∧ RelOK qq ∧ RelLe q qq) (relA q) (AA := fun qq => relA qq) rfl (by kernel_rfl) (by rw [hqr]; rfl) rfl (fun w' hw' hH => (add_calls q hqok y.l y.a y.l.length y.c hi64 (by omega) (by omega) w' (RI.of_row (c := y.c) hw' (List.mem_append_right _ (.tail _ (.tail _ (.tail _ (.tail _ (.tail _ (.tail _ (.tail _ (List.mem_append_left _ (List.mem_flatMap.2 ⟨y, List.mem_append_right _ hym, .head _⟩))))))))))) (fun b hb _ => Sat.sepO hw' (.tail _ (.tail _ (.tail _ (.tail _ (.tail _ (.tail _ (.tail _ (List.mem_append_left _ (List.mem_flatMap.2 ⟨y, List.mem_append_right _ hym, .head _⟩))))))))) ⟨b, hb, rfl⟩) hH).mono (fun en w'' ⟨h1, g', h2, h3, h4, h5⟩ => ⟨g', h1, ⟨h2, h3, h4⟩, h5⟩)) ?_
            rintro g101 hpp
            obtain ⟨hrp101, ok101, le101⟩ : rp g101 = addRP q.width (rp q) y.l ∧ RelOK g101 ∧ RelLe q g101 := hpp
            rw [addV_not q.width (rp q) (hyw.trans hqw.symm), addE_0 (hyw.trans hqw.symm)]
            refine WL.val (OV.move rfl) rfl ?_
            refine WL.val (OV.extract rfl rfl) rfl ?_
            refine WL.val (OV.extract rfl rfl) rfl ?_
            refine WL.val (OV.assign rfl) rfl ?_
            refine WL.val (OV.assign rfl) rfl ?_
            refine WL.nil ?_
            refine WX.next ?_
            refine WC.seq ?_
            refine WC.seq ?_
            refine WC.region ?_
            refine WL.val (OV.move rfl) rfl ?_
            refine WL.val (OV.neq rfl rfl) rfl ?_
            refine WL.val (OV.move rfl) rfl ?_
            refine WL.known (t := 106) (b := false) rfl (by rfl) ?_
            refine WL.go (b := false) rfl rfl rfl ?_
            refine WL.val (OV.move rfl) rfl ?_
            refine WL.go (b := false) rfl rfl rfl ?_
            refine WL.val (OV.move rfl) rfl ?_
            refine WL.go (b := false) rfl rfl rfl ?_
            refine WL.val (OV.eqlB T.u4 rfl rfl) rfl ?_
            refine WL.val (OV.pickF rfl rfl) rfl ?_
            refine WL.nil ?_
            refine WX.next ?_
            refine WC.condF (show _ = some (Value.bool false) from by exact congrArg (fun b => some (Value.bool b)) (by generalize decide (y.l ∈ (rp q).map (·.1)) = b; cases b <;> rfl)) ?_
            refine WC.skip ?_
            refine WX.next ?_
            refine WC.seq ?_
            refine WC.region ?_
            refine WL.val (OV.move rfl) rfl ?_
            refine WL.nil ?_
            refine WX.next ?_
            refine WC.cond rfl (fun c111 => ?_) (fun c111 => ?_)
            · try simp only [decide_eq_true_eq, decide_eq_false_iff_not, Bool.not_eq_true', Bool.not_eq_false'] at c111
              refine WC.region ?_
              refine WL.val (OV.move rfl) rfl ?_
              refine WL.val (OV.load1 (v := .slice la ys.length lc) rfl T.u29 rfl (fun _ hw => cell_own hw (List.mem_append_right _ (.tail _ (.head _))) rfl)) rfl ?_
              refine WL.val (OV.move rfl) rfl ?_
              refine WL.val (OV.indexSliceA (a := ⟨q5, 0, none⟩) (i := k) (show _ = some (Value.slice (some ⟨q5, 0, none⟩) ys.length lc) by rw [← hq5]; rfl) rfl T.u29 T.z23 (by omega)) rfl ?_
              refine WL.val (OV.load1 (v := encC y) rfl T.u23 rfl (fun _ hw => row_cellsE hw hq5 (List.mem_append_right _ (.tail _ (.tail _ (.head _)))) k _ (by rw [List.getElem?_map, hy]; rfl))) rfl ?_
              refine WL.buildSlice1 T.u29 T.z23 T.zr23 rfl rfl rfl ?_
              intro b117
              refine WL.focus (ow' := rowL xa xc X :: (own b117 (.cells [encC y].toArray 23 (0, 0)) :: (relA g101 ++ (box1 b14 29 (.slice la ys.length lc) :: rowL la lc ys :: TLp b4 oa oc O fa fc F ca cc wd (pool ++ ys) Ds)))) (perm_cat [[own b117 (.cells [encC y].toArray 23 (0, 0))], relA g101, [rowL xa xc X], (box1 b14 29 (.slice la ys.length lc) :: rowL la lc ys :: TLp b4 oa oc O fa fc F ca cc wd (pool ++ ys) Ds)] [2, 0, 1, 3] (by decide) rfl) (WL.append (news := [encC y]) rfl rfl T.apR (fun _ _ => own_src (.tail _ (.head _)) rfl) (encC_one [y]) ⟨by omega, by unfold maxLen; omega⟩ rfl ?_)
              intro a118 c118
              refine WL.val (OV.assign rfl) rfl ?_
              refine WL.nil ?_
              refine WX.block_normal ?_
              refine WX.next ?_
              refine WC.region ?_
              refine WL.val (OV.move rfl) rfl ?_
              first
              | (refine WL.val (OV.addI rfl rfl (by omega)) rfl ?_)
              | (refine WL.val (OV.add rfl rfl) rfl ?_)
              refine WL.val (OV.assign rfl) rfl ?_
              refine WL.nil ?_
              have hM : ¬ y.l ∈ (rp q).map (·.1) := by simpa using c111
              have hrp2 : rp g101 = tag O 1 ++ (tag F 2 ++ tag (X ++ [y]) 4) := by rw [hrp101, hqw, hqrp, addRP_tags hyw, if_neg (by rw [← hqrp]; exact hM)]
              have el : X.length + 1 = (X ++ [y]).length := by simp
              have em : X.map encC ++ [encC y] = (X ++ [y]).map encC := by simp
              refine WX.round5 (k + 1) g101 a118 c118 (X ++ [y]) ⟨rfl, rfl, rfl, rfl, rfl, rfl, rfl, rfl, by rw [← el]; rfl, rfl, rfl, trivial⟩ (fun w' hw => ⟨⟨by omega, ok101, le101.width.trans hqw, le101.r.trans hqr, hrp2, fun z hz => ?_, fun j z hj hz => ?_, ?_⟩, ?_⟩) (by show ys.length - (k + 1) < ys.length - k; omega)
              · rcases List.mem_append.1 hz with hz | hz
                · exact hXy z hz
                · simp only [List.mem_singleton] at hz; rw [hz]; exact hym
              · rw [hrp101]
                rw [fst_addRP (by rw [hyw, hqw])]
                by_cases hjk : j = k
                · subst hjk; right; rw [Option.some.inj (hz.symm.trans hy)]
                · left; exact hall j z (by omega) hz
              · have q1 := es_len hrp101
                have q2 := addRP_len q.width (rp q) y.l
                rw [rp_len] at q2
                omega
              · show Sat _ _ _ _ (_ ++ (row 23 1 a118 (X ++ [y]).length c118 ((X ++ [y]).map encC) :: _)) _
                rw [← el, ← em]
                exact hw.pick [[row 23 1 a118 (X.length + 1) c118 (X.map encC ++ [encC y])], [own b117 (.cells [encC y].toArray 23 (0, 0))], relA g101, (box1 b14 29 (.slice la ys.length lc) :: rowL la lc ys :: TLp b4 oa oc O fa fc F ca cc wd (pool ++ ys) Ds)] [2, 0, 3] 4 rfl (by decide) (by decide)
            · try simp only [decide_eq_true_eq, decide_eq_false_iff_not, Bool.not_eq_true', Bool.not_eq_false'] at c111
              refine WC.skip ?_
              refine WX.block_normal ?_
              refine WX.next ?_
              refine WC.region ?_
              refine WL.val (OV.move rfl) rfl ?_
              first
              | (refine WL.val (OV.addI rfl rfl (by omega)) rfl ?_)
              | (refine WL.val (OV.add rfl rfl) rfl ?_)
              refine WL.val (OV.assign rfl) rfl ?_
              refine WL.nil ?_
              have hM : y.l ∈ (rp q).map (·.1) := by simpa using c111
              have hrp2 : rp g101 = rp q := by rw [hrp101, hqw, hqrp, addRP_tags hyw, if_pos (by rw [← hqrp]; exact hM)]
              refine WX.round5 (k + 1) g101 xa xc X ⟨rfl, rfl, rfl, rfl, rfl, rfl, rfl, rfl, rfl, rfl, rfl, trivial⟩ (fun w' hw => ⟨⟨by omega, ok101, le101.width.trans hqw, le101.r.trans hqr, hrp2.trans hqrp, hXy, fun j z hj hz => ?_, ?_⟩, hw⟩) (by show ys.length - (k + 1) < ys.length - k; omega)
              · rw [hrp2]
                by_cases hjk : j = k
                · subst hjk; rw [← Option.some.inj (hy.symm.trans hz)]; exact hM
                · exact hall j z (by omega) hz
              · have q1 := es_len hrp2
                rw [rp_len] at q1
                omega
          · try simp only [decide_eq_true_eq, decide_eq_false_iff_not, Bool.not_eq_true', Bool.not_eq_false'] at g79
            refine WL.go (b := false) rfl rfl rfl ?_
            refine WL.val (OV.move rfl) rfl ?_
            refine WL.go (b := false) rfl rfl rfl ?_
            refine WL.val (OV.load1 (v := .slice la ys.length lc) rfl T.u29 rfl (fun _ hw => cell_own hw (List.mem_append_right _ (.tail _ (.head _))) rfl)) rfl ?_
            refine WL.go (b := false) rfl rfl rfl ?_
            refine WL.val (OV.move rfl) rfl ?_
            refine WL.go (b := false) rfl rfl rfl ?_
            refine WL.val (OV.indexSliceA (a := ⟨q5, 0, none⟩) (i := k) (show _ = some (Value.slice (some ⟨q5, 0, none⟩) ys.length lc) by rw [← hq5]; rfl) rfl T.u29 T.z23 (by omega)) rfl ?_
            refine WL.go (b := false) rfl rfl rfl ?_
            refine WL.val (OV.load1 (v := encC y) rfl T.u23 rfl (fun _ hw => row_cellsE hw hq5 (List.mem_append_right _ (.tail _ (.tail _ (.head _)))) k _ (by rw [List.getElem?_map, hy]; rfl))) rfl ?_
            refine WL.go (b := false) rfl rfl rfl ?_
            refine WL.call0 (v := .bool (decide (y.l ∈ F.map Col.l))) (vs := [.slice fa F.length fc, encC y]) (by kernel_rfl) rfl rfl (fun w' hw' => has_calls (F.map Col.l) y.l fa y.a F.length fc y.l.length y.c hyn w' (RLi.of_lst (c := fc) hw' (lst_sub (pool := pool ++ ys) (List.mem_append_right _ (.tail _ (.tail _ (.tail _ (.tail _ (.tail _ (.head _))))))) hFp (fun i hi => List.mem_append_right _ (.tail _ (.tail _ (.tail _ (.tail _ (.tail _ (.tail _ (.tail _ (List.mem_append_left _ hi)))))))))) (by omega) (fun l hl => (hFl l hl).1) (fun l hl => (hFl l hl).2)) (RI.of_row (c := y.c) hw' (List.mem_append_right _ (.tail _ (.tail _ (.tail _ (.tail _ (.tail _ (.tail _ (.tail _ (List.mem_append_left _ (List.mem_flatMap.2 ⟨y, List.mem_append_right _ hym, .head _⟩)))))))))))) ?_
            refine WL.val (OV.pickF rfl rfl) rfl ?_
            refine WL.val (OV.move rfl) rfl ?_
            refine WL.split (t := 87) rfl (fun g87 => ?_) (fun g87 => ?_)
            · try simp only [decide_eq_true_eq, decide_eq_false_iff_not, Bool.not_eq_true', Bool.not_eq_false'] at g87
              refine WL.skip (b := true) rfl rfl rfl rfl ?_
              refine WL.skip (b := true) rfl rfl rfl rfl ?_
              refine WL.skip (b := true) rfl rfl rfl rfl ?_
              refine WL.skip (b := true) rfl rfl rfl rfl ?_
              refine WL.skip (b := true) rfl rfl rfl rfl ?_
              refine WL.skip (b := true) rfl rfl rfl rfl ?_
              refine WL.val (OV.pickT rfl rfl) rfl ?_
              refine WL.val ((OV.assign rfl).cast (u := .bool (decide (y.l ∈ (rp q).map (·.1)))) (by congr 1; rw [decide_eq_true (show y.l ∈ (rp q).map (·.1) from by rw [hqrp, rows_tags]; exact List.mem_append_right _ (List.mem_append_left _ (by simpa using g87)))])) rfl ?_
              refine WL.nil ?_
              refine WX.next ?_
              refine WC.seq ?_
              refine WC.region ?_
              refine WL.val (OV.move rfl) rfl ?_
              refine WL.val (OV.load1 (v := .slice la ys.length lc) rfl T.u29 rfl (fun _ hw => cell_own hw (List.mem_append_right _ (.tail _ (.head _))) rfl)) rfl ?_
              refine WL.val (OV.move rfl) rfl ?_
              refine WL.val (OV.indexSliceA (a := ⟨q5, 0, none⟩) (i := k) (show _ = some (Value.slice (some ⟨q5, 0, none⟩) ys.length lc) by rw [← hq5]; rfl) rfl T.u29 T.z23 (by omega)) rfl ?_
              refine WL.val (OV.load1 (v := encC y) rfl T.u23 rfl (fun _ hw => row_cellsE hw hq5 (List.mem_append_right _ (.tail _ (.tail _ (.head _)))) k _ (by rw [List.getElem?_map, hy]; rfl))) rfl ?_
              have hi64 := hyi
              refine WL.callTA (ι := RelG) (vs := [ptr q.r, encC y]) (vv := fun _ => .tuple #[.bool (addV q.width (rp q) y.l), .int .i64 (addE q.width y.l)]) (pp := fun qq => rp qq = addRP q.width (rp q) y.l ∧ RelOK qq ∧ RelLe q qq) (relA q) (AA := fun qq => relA qq) rfl (by kernel_rfl) (by rw [hqr]; rfl) rfl (fun w' hw' hH => (add_calls q hqok y.l y.a y.l.length y.c hi64 (by omega) (by omega) w' (RI.of_row (c := y.c) hw' (List.mem_append_right _ (.tail _ (.tail _ (.tail _ (.tail _ (.tail _ (.tail _ (.tail _ (List.mem_append_left _ (List.mem_flatMap.2 ⟨y, List.mem_append_right _ hym, .head _⟩))))))))))) (fun b hb _ => Sat.sepO hw' (.tail _ (.tail _ (.tail _ (.tail _ (.tail _ (.tail _ (.tail _ (List.mem_append_left _ (List.mem_flatMap.2 ⟨y, List.mem_append_right _ hym, .head _⟩))))))))) ⟨b, hb, rfl⟩) hH).mono (fun en w'' ⟨h1, g', h2, h3, h4, h5⟩ => ⟨g', h1, ⟨h2, h3, h4⟩, h5⟩)) ?_
              rintro g101 hpp
              obtain ⟨hrp101, ok101, le101⟩ : rp g101 = addRP q.width (rp q) y.l ∧ RelOK g101 ∧ RelLe q g101 := hpp
              rw [addV_not q.width (rp q) (hyw.trans hqw.symm), addE_0 (hyw.trans hqw.symm)]
              refine WL.val (OV.move rfl) rfl ?_
              refine WL.val (OV.extract rfl rfl) rfl ?_
              refine WL.val (OV.extract rfl rfl) rfl ?_
              refine WL.val (OV.assign rfl) rfl ?_
              refine WL.val (OV.assign rfl) rfl ?_
              refine WL.nil ?_
              refine WX.next ?_
              refine WC.seq ?_
              refine WC.seq ?_
              refine WC.region ?_
              refine WL.val (OV.move rfl) rfl ?_
              refine WL.val (OV.neq rfl rfl) rfl ?_
              refine WL.val (OV.move rfl) rfl ?_
              refine WL.known (t := 106) (b := false) rfl (by rfl) ?_
              refine WL.go (b := false) rfl rfl rfl ?_
              refine WL.val (OV.move rfl) rfl ?_
              refine WL.go (b := false) rfl rfl rfl ?_
              refine WL.val (OV.move rfl) rfl ?_
              refine WL.go (b := false) rfl rfl rfl ?_
              refine WL.val (OV.eqlB T.u4 rfl rfl) rfl ?_
              refine WL.val (OV.pickF rfl rfl) rfl ?_
              refine WL.nil ?_
              refine WX.next ?_
              refine WC.condF (show _ = some (Value.bool false) from by exact congrArg (fun b => some (Value.bool b)) (by generalize decide (y.l ∈ (rp q).map (·.1)) = b; cases b <;> rfl)) ?_
              refine WC.skip ?_
              refine WX.next ?_
              refine WC.seq ?_
              refine WC.region ?_
              refine WL.val (OV.move rfl) rfl ?_
              refine WL.nil ?_
              refine WX.next ?_
              refine WC.cond rfl (fun c111 => ?_) (fun c111 => ?_)
              · try simp only [decide_eq_true_eq, decide_eq_false_iff_not, Bool.not_eq_true', Bool.not_eq_false'] at c111
                refine WC.region ?_
                refine WL.val (OV.move rfl) rfl ?_
                refine WL.val (OV.load1 (v := .slice la ys.length lc) rfl T.u29 rfl (fun _ hw => cell_own hw (List.mem_append_right _ (.tail _ (.head _))) rfl)) rfl ?_
                refine WL.val (OV.move rfl) rfl ?_
                refine WL.val (OV.indexSliceA (a := ⟨q5, 0, none⟩) (i := k) (show _ = some (Value.slice (some ⟨q5, 0, none⟩) ys.length lc) by rw [← hq5]; rfl) rfl T.u29 T.z23 (by omega)) rfl ?_
                refine WL.val (OV.load1 (v := encC y) rfl T.u23 rfl (fun _ hw => row_cellsE hw hq5 (List.mem_append_right _ (.tail _ (.tail _ (.head _)))) k _ (by rw [List.getElem?_map, hy]; rfl))) rfl ?_
                refine WL.buildSlice1 T.u29 T.z23 T.zr23 rfl rfl rfl ?_
                intro b117
                refine WL.focus (ow' := rowL xa xc X :: (own b117 (.cells [encC y].toArray 23 (0, 0)) :: (relA g101 ++ (box1 b14 29 (.slice la ys.length lc) :: rowL la lc ys :: TLp b4 oa oc O fa fc F ca cc wd (pool ++ ys) Ds)))) (perm_cat [[own b117 (.cells [encC y].toArray 23 (0, 0))], relA g101, [rowL xa xc X], (box1 b14 29 (.slice la ys.length lc) :: rowL la lc ys :: TLp b4 oa oc O fa fc F ca cc wd (pool ++ ys) Ds)] [2, 0, 1, 3] (by decide) rfl) (WL.append (news := [encC y]) rfl rfl T.apR (fun _ _ => own_src (.tail _ (.head _)) rfl) (encC_one [y]) ⟨by omega, by unfold maxLen; omega⟩ rfl ?_)
                intro a118 c118
                refine WL.val (OV.assign rfl) rfl ?_
                refine WL.nil ?_
                refine WX.block_normal ?_
                refine WX.next ?_
                refine WC.region ?_
                refine WL.val (OV.move rfl) rfl ?_
                first
                | (refine WL.val (OV.addI rfl rfl (by omega)) rfl ?_)
                | (refine WL.val (OV.add rfl rfl) rfl ?_)
                refine WL.val (OV.assign rfl) rfl ?_
                refine WL.nil ?_
                have hM : ¬ y.l ∈ (rp q).map (·.1) := by simpa using c111
                have hrp2 : rp g101 = tag O 1 ++ (tag F 2 ++ tag (X ++ [y]) 4) := by rw [hrp101, hqw, hqrp, addRP_tags hyw, if_neg (by rw [← hqrp]; exact hM)]
                have el : X.length + 1 = (X ++ [y]).length := by simp
                have em : X.map encC ++ [encC y] = (X ++ [y]).map encC := by simp
                refine WX.round5 (k + 1) g101 a118 c118 (X ++ [y]) ⟨rfl, rfl, rfl, rfl, rfl, rfl, rfl, rfl, by rw [← el]; rfl, rfl, rfl, trivial⟩ (fun w' hw => ⟨⟨by omega, ok101, le101.width.trans hqw, le101.r.trans hqr, hrp2, fun z hz => ?_, fun j z hj hz => ?_, ?_⟩, ?_⟩) (by show ys.length - (k + 1) < ys.length - k; omega)
                · rcases List.mem_append.1 hz with hz | hz
                  · exact hXy z hz
                  · simp only [List.mem_singleton] at hz; rw [hz]; exact hym
                · rw [hrp101]
                  rw [fst_addRP (by rw [hyw, hqw])]
                  by_cases hjk : j = k
                  · subst hjk; right; rw [Option.some.inj (hz.symm.trans hy)]
                  · left; exact hall j z (by omega) hz
                · have q1 := es_len hrp101
                  have q2 := addRP_len q.width (rp q) y.l
                  rw [rp_len] at q2
                  omega
                · show Sat _ _ _ _ (_ ++ (row 23 1 a118 (X ++ [y]).length c118 ((X ++ [y]).map encC) :: _)) _
                  rw [← el, ← em]
                  exact hw.pick [[row 23 1 a118 (X.length + 1) c118 (X.map encC ++ [encC y])], [own b117 (.cells [encC y].toArray 23 (0, 0))], relA g101, (box1 b14 29 (.slice la ys.length lc) :: rowL la lc ys :: TLp b4 oa oc O fa fc F ca cc wd (pool ++ ys) Ds)] [2, 0, 3] 4 rfl (by decide) (by decide)
              · try simp only [decide_eq_true_eq, decide_eq_false_iff_not, Bool.not_eq_true', Bool.not_eq_false'] at c111
                refine WC.skip ?_
                refine WX.block_normal ?_
                refine WX.next ?_
                refine WC.region ?_
                refine WL.val (OV.move rfl) rfl ?_
                first
                | (refine WL.val (OV.addI rfl rfl (by omega)) rfl ?_)
                | (refine WL.val (OV.add rfl rfl) rfl ?_)
                refine WL.val (OV.assign rfl) rfl ?_
                refine WL.nil ?_
                have hM : y.l ∈ (rp q).map (·.1) := by simpa using c111
                have hrp2 : rp g101 = rp q := by rw [hrp101, hqw, hqrp, addRP_tags hyw, if_pos (by rw [← hqrp]; exact hM)]
                refine WX.round5 (k + 1) g101 xa xc X ⟨rfl, rfl, rfl, rfl, rfl, rfl, rfl, rfl, rfl, rfl, rfl, trivial⟩ (fun w' hw => ⟨⟨by omega, ok101, le101.width.trans hqw, le101.r.trans hqr, hrp2.trans hqrp, hXy, fun j z hj hz => ?_, ?_⟩, hw⟩) (by show ys.length - (k + 1) < ys.length - k; omega)
                · rw [hrp2]
                  by_cases hjk : j = k
                  · subst hjk; rw [← Option.some.inj (hy.symm.trans hz)]; exact hM
                  · exact hall j z (by omega) hz
                · have q1 := es_len hrp2
                  rw [rp_len] at q1
                  omega
            · try simp only [decide_eq_true_eq, decide_eq_false_iff_not, Bool.not_eq_true', Bool.not_eq_false'] at g87
              refine WL.go (b := false) rfl rfl rfl ?_
              refine WL.val (OV.move rfl) rfl ?_
              refine WL.go (b := false) rfl rfl rfl ?_
              refine WL.val (OV.load1 (v := .slice la ys.length lc) rfl T.u29 rfl (fun _ hw => cell_own hw (List.mem_append_right _ (.tail _ (.head _))) rfl)) rfl ?_
              refine WL.go (b := false) rfl rfl rfl ?_
              refine WL.val (OV.move rfl) rfl ?_
              refine WL.go (b := false) rfl rfl rfl ?_
              refine WL.val (OV.indexSliceA (a := ⟨q5, 0, none⟩) (i := k) (show _ = some (Value.slice (some ⟨q5, 0, none⟩) ys.length lc) by rw [← hq5]; rfl) rfl T.u29 T.z23 (by omega)) rfl ?_
              refine WL.go (b := false) rfl rfl rfl ?_
              refine WL.val (OV.load1 (v := encC y) rfl T.u23 rfl (fun _ hw => row_cellsE hw hq5 (List.mem_append_right _ (.tail _ (.tail _ (.head _)))) k _ (by rw [List.getElem?_map, hy]; rfl))) rfl ?_
              refine WL.go (b := false) rfl rfl rfl ?_
              refine WL.call0 (v := .bool (decide (y.l ∈ X.map Col.l))) (vs := [.slice xa X.length xc, encC y]) (by kernel_rfl) rfl rfl (fun w' hw' => has_calls (X.map Col.l) y.l xa y.a X.length xc y.l.length y.c hyn w' (RLi.of_lst (c := xc) hw' (lst_sub (pool := pool ++ ys) (List.mem_append_right _ (.head _)) hXp (fun i hi => List.mem_append_right _ (.tail _ (.tail _ (.tail _ (.tail _ (.tail _ (.tail _ (.tail _ (List.mem_append_left _ hi)))))))))) (by omega) (fun l hl => (hXl l hl).1) (fun l hl => (hXl l hl).2)) (RI.of_row (c := y.c) hw' (List.mem_append_right _ (.tail _ (.tail _ (.tail _ (.tail _ (.tail _ (.tail _ (.tail _ (List.mem_append_left _ (List.mem_flatMap.2 ⟨y, List.mem_append_right _ hym, .head _⟩)))))))))))) ?_
              refine WL.val (OV.pickF rfl rfl) rfl ?_
              refine WL.val ((OV.assign rfl).cast (u := .bool (decide (y.l ∈ (rp q).map (·.1)))) (by congr 1; refine decide_eq_decide.2 ?_; rw [hqrp, rows_tags, List.mem_append, List.mem_append]; exact ⟨fun h => .inr (.inr h), fun h => h.elim (fun h => absurd h (by simpa using g79)) (fun h => h.elim (fun h => absurd h (by simpa using g87)) id)⟩)) rfl ?_
              refine WL.nil ?_
              refine WX.next ?_
              refine WC.seq ?_
              refine WC.region ?_
              refine WL.val (OV.move rfl) rfl ?_
              refine WL.val (OV.load1 (v := .slice la ys.length lc) rfl T.u29 rfl (fun _ hw => cell_own hw (List.mem_append_right _ (.tail _ (.head _))) rfl)) rfl ?_
              refine WL.val (OV.move rfl) rfl ?_
              refine WL.val (OV.indexSliceA (a := ⟨q5, 0, none⟩) (i := k) (show _ = some (Value.slice (some ⟨q5, 0, none⟩) ys.length lc) by rw [← hq5]; rfl) rfl T.u29 T.z23 (by omega)) rfl ?_
              refine WL.val (OV.load1 (v := encC y) rfl T.u23 rfl (fun _ hw => row_cellsE hw hq5 (List.mem_append_right _ (.tail _ (.tail _ (.head _)))) k _ (by rw [List.getElem?_map, hy]; rfl))) rfl ?_
              have hi64 := hyi
              refine WL.callTA (ι := RelG) (vs := [ptr q.r, encC y]) (vv := fun _ => .tuple #[.bool (addV q.width (rp q) y.l), .int .i64 (addE q.width y.l)]) (pp := fun qq => rp qq = addRP q.width (rp q) y.l ∧ RelOK qq ∧ RelLe q qq) (relA q) (AA := fun qq => relA qq) rfl (by kernel_rfl) (by rw [hqr]; rfl) rfl (fun w' hw' hH => (add_calls q hqok y.l y.a y.l.length y.c hi64 (by omega) (by omega) w' (RI.of_row (c := y.c) hw' (List.mem_append_right _ (.tail _ (.tail _ (.tail _ (.tail _ (.tail _ (.tail _ (.tail _ (List.mem_append_left _ (List.mem_flatMap.2 ⟨y, List.mem_append_right _ hym, .head _⟩))))))))))) (fun b hb _ => Sat.sepO hw' (.tail _ (.tail _ (.tail _ (.tail _ (.tail _ (.tail _ (.tail _ (List.mem_append_left _ (List.mem_flatMap.2 ⟨y, List.mem_append_right _ hym, .head _⟩))))))))) ⟨b, hb, rfl⟩) hH).mono (fun en w'' ⟨h1, g', h2, h3, h4, h5⟩ => ⟨g', h1, ⟨h2, h3, h4⟩, h5⟩)) ?_
              rintro g101 hpp
              obtain ⟨hrp101, ok101, le101⟩ : rp g101 = addRP q.width (rp q) y.l ∧ RelOK g101 ∧ RelLe q g101 := hpp
              rw [addV_not q.width (rp q) (hyw.trans hqw.symm), addE_0 (hyw.trans hqw.symm)]
              refine WL.val (OV.move rfl) rfl ?_
              refine WL.val (OV.extract rfl rfl) rfl ?_
              refine WL.val (OV.extract rfl rfl) rfl ?_
              refine WL.val (OV.assign rfl) rfl ?_
              refine WL.val (OV.assign rfl) rfl ?_
              refine WL.nil ?_
              refine WX.next ?_
              refine WC.seq ?_
              refine WC.seq ?_
              refine WC.region ?_
              refine WL.val (OV.move rfl) rfl ?_
              refine WL.val (OV.neq rfl rfl) rfl ?_
              refine WL.val (OV.move rfl) rfl ?_
              refine WL.known (t := 106) (b := false) rfl (by rfl) ?_
              refine WL.go (b := false) rfl rfl rfl ?_
              refine WL.val (OV.move rfl) rfl ?_
              refine WL.go (b := false) rfl rfl rfl ?_
              refine WL.val (OV.move rfl) rfl ?_
              refine WL.go (b := false) rfl rfl rfl ?_
              refine WL.val (OV.eqlB T.u4 rfl rfl) rfl ?_
              refine WL.val (OV.pickF rfl rfl) rfl ?_
              refine WL.nil ?_
              refine WX.next ?_
              refine WC.condF (show _ = some (Value.bool false) from by exact congrArg (fun b => some (Value.bool b)) (by generalize decide (y.l ∈ (rp q).map (·.1)) = b; cases b <;> rfl)) ?_
              refine WC.skip ?_
              refine WX.next ?_
              refine WC.seq ?_
              refine WC.region ?_
              refine WL.val (OV.move rfl) rfl ?_
              refine WL.nil ?_
              refine WX.next ?_
              refine WC.cond rfl (fun c111 => ?_) (fun c111 => ?_)
              · try simp only [decide_eq_true_eq, decide_eq_false_iff_not, Bool.not_eq_true', Bool.not_eq_false'] at c111
                refine WC.region ?_
                refine WL.val (OV.move rfl) rfl ?_
                refine WL.val (OV.load1 (v := .slice la ys.length lc) rfl T.u29 rfl (fun _ hw => cell_own hw (List.mem_append_right _ (.tail _ (.head _))) rfl)) rfl ?_
                refine WL.val (OV.move rfl) rfl ?_
                refine WL.val (OV.indexSliceA (a := ⟨q5, 0, none⟩) (i := k) (show _ = some (Value.slice (some ⟨q5, 0, none⟩) ys.length lc) by rw [← hq5]; rfl) rfl T.u29 T.z23 (by omega)) rfl ?_
                refine WL.val (OV.load1 (v := encC y) rfl T.u23 rfl (fun _ hw => row_cellsE hw hq5 (List.mem_append_right _ (.tail _ (.tail _ (.head _)))) k _ (by rw [List.getElem?_map, hy]; rfl))) rfl ?_
                refine WL.buildSlice1 T.u29 T.z23 T.zr23 rfl rfl rfl ?_
                intro b117
                refine WL.focus (ow' := rowL xa xc X :: (own b117 (.cells [encC y].toArray 23 (0, 0)) :: (relA g101 ++ (box1 b14 29 (.slice la ys.length lc) :: rowL la lc ys :: TLp b4 oa oc O fa fc F ca cc wd (pool ++ ys) Ds)))) (perm_cat [[own b117 (.cells [encC y].toArray 23 (0, 0))], relA g101, [rowL xa xc X], (box1 b14 29 (.slice la ys.length lc) :: rowL la lc ys :: TLp b4 oa oc O fa fc F ca cc wd (pool ++ ys) Ds)] [2, 0, 1, 3] (by decide) rfl) (WL.append (news := [encC y]) rfl rfl T.apR (fun _ _ => own_src (.tail _ (.head _)) rfl) (encC_one [y]) ⟨by omega, by unfold maxLen; omega⟩ rfl ?_)
                intro a118 c118
                refine WL.val (OV.assign rfl) rfl ?_
                refine WL.nil ?_
                refine WX.block_normal ?_
                refine WX.next ?_
                refine WC.region ?_
                refine WL.val (OV.move rfl) rfl ?_
                first
                | (refine WL.val (OV.addI rfl rfl (by omega)) rfl ?_)
                | (refine WL.val (OV.add rfl rfl) rfl ?_)
                refine WL.val (OV.assign rfl) rfl ?_
                refine WL.nil ?_
                have hM : ¬ y.l ∈ (rp q).map (·.1) := by simpa using c111
                have hrp2 : rp g101 = tag O 1 ++ (tag F 2 ++ tag (X ++ [y]) 4) := by rw [hrp101, hqw, hqrp, addRP_tags hyw, if_neg (by rw [← hqrp]; exact hM)]
                have el : X.length + 1 = (X ++ [y]).length := by simp
                have em : X.map encC ++ [encC y] = (X ++ [y]).map encC := by simp
                refine WX.round5 (k + 1) g101 a118 c118 (X ++ [y]) ⟨rfl, rfl, rfl, rfl, rfl, rfl, rfl, rfl, by rw [← el]; rfl, rfl, rfl, trivial⟩ (fun w' hw => ⟨⟨by omega, ok101, le101.width.trans hqw, le101.r.trans hqr, hrp2, fun z hz => ?_, fun j z hj hz => ?_, ?_⟩, ?_⟩) (by show ys.length - (k + 1) < ys.length - k; omega)
                · rcases List.mem_append.1 hz with hz | hz
                  · exact hXy z hz
                  · simp only [List.mem_singleton] at hz; rw [hz]; exact hym
                · rw [hrp101]
                  rw [fst_addRP (by rw [hyw, hqw])]
                  by_cases hjk : j = k
                  · subst hjk; right; rw [Option.some.inj (hz.symm.trans hy)]
                  · left; exact hall j z (by omega) hz
                · have q1 := es_len hrp101
                  have q2 := addRP_len q.width (rp q) y.l
                  rw [rp_len] at q2
                  omega
                · show Sat _ _ _ _ (_ ++ (row 23 1 a118 (X ++ [y]).length c118 ((X ++ [y]).map encC) :: _)) _
                  rw [← el, ← em]
                  exact hw.pick [[row 23 1 a118 (X.length + 1) c118 (X.map encC ++ [encC y])], [own b117 (.cells [encC y].toArray 23 (0, 0))], relA g101, (box1 b14 29 (.slice la ys.length lc) :: rowL la lc ys :: TLp b4 oa oc O fa fc F ca cc wd (pool ++ ys) Ds)] [2, 0, 3] 4 rfl (by decide) (by decide)
              · try simp only [decide_eq_true_eq, decide_eq_false_iff_not, Bool.not_eq_true', Bool.not_eq_false'] at c111
                refine WC.skip ?_
                refine WX.block_normal ?_
                refine WX.next ?_
                refine WC.region ?_
                refine WL.val (OV.move rfl) rfl ?_
                first
                | (refine WL.val (OV.addI rfl rfl (by omega)) rfl ?_)
                | (refine WL.val (OV.add rfl rfl) rfl ?_)
                refine WL.val (OV.assign rfl) rfl ?_
                refine WL.nil ?_
                have hM : y.l ∈ (rp q).map (·.1) := by simpa using c111
                have hrp2 : rp g101 = rp q := by rw [hrp101, hqw, hqrp, addRP_tags hyw, if_pos (by rw [← hqrp]; exact hM)]
                refine WX.round5 (k + 1) g101 xa xc X ⟨rfl, rfl, rfl, rfl, rfl, rfl, rfl, rfl, rfl, rfl, rfl, trivial⟩ (fun w' hw => ⟨⟨by omega, ok101, le101.width.trans hqw, le101.r.trans hqr, hrp2.trans hqrp, hXy, fun j z hj hz => ?_, ?_⟩, hw⟩) (by show ys.length - (k + 1) < ys.length - k; omega)
                · rw [hrp2]
                  by_cases hjk : j = k
                  · subst hjk; rw [← Option.some.inj (hy.symm.trans hz)]; exact hM
                  · exact hall j z (by omega) hz
                · have q1 := es_len hrp2
                  rw [rp_len] at q1
                  omega
        · try simp only [decide_eq_true_eq, decide_eq_false_iff_not, Bool.not_eq_true', Bool.not_eq_false'] at c70
          refine WC.exit ?_
          refine WX.then_exit ?_
          refine WX.then_exit ?_
          refine WX.block_hit ?_
          refine WX.next ?_
          refine WC.seq ?_
          refine WC.seq ?_
          have hke : k = ys.length := by omega
          have hq0l : q.es.length = O.length + (F.length + X.length) := by have h1 := es_len hqrp; simpa [tag_length] using h1
          have hql := tag_lens hqok hqrp
          have hqwl := hqok.wl
          have hOl : ∀ l ∈ O.map Col.l, l.length ≤ 1099511627776 ∧ i64s l := fun l hl => by obtain ⟨c, hc, rfl⟩ := List.mem_map.1 hl; have := hql c (.inl hc); exact ⟨by omega, this.2⟩
          have hFl : ∀ l ∈ F.map Col.l, l.length ≤ 1099511627776 ∧ i64s l := fun l hl => by obtain ⟨c, hc, rfl⟩ := List.mem_map.1 hl; have := hql c (.inr (.inl hc)); exact ⟨by omega, this.2⟩
          have hXl : ∀ l ∈ X.map Col.l, l.length ≤ 1099511627776 ∧ i64s l := fun l hl => by obtain ⟨c, hc, rfl⟩ := List.mem_map.1 hl; have := hql c (.inr (.inr hc)); exact ⟨by omega, this.2⟩
          have hTl : O.length + (F.length + X.length) ≤ ((bs.take (i + 1)).map List.length).sum := by omega
          have hOp : ∀ c ∈ O, c ∈ pool ++ ys := fun c hc => List.mem_append_left _ (hO c hc)
          have hFp : ∀ c ∈ F, c ∈ pool ++ ys := fun c hc => List.mem_append_left _ (hF c hc)
          have hXp : ∀ c ∈ X, c ∈ pool ++ ys := fun c hc => List.mem_append_right _ (hXy c hc)
          refine WC.region ?_
          refine WL.val (OV.move rfl) rfl ?_
          refine WL.val (OV.move rfl) rfl ?_
          refine WL.callTA (ι := RelG) (vs := [ptr q.r, .int .i64 1, .slice oa O.length oc]) (vv := fun _ => .bool true) (pp := fun z => RelOK z ∧ RelLe q z ∧ z.es = q.es) (relA q ++ (rowL xa xc X :: box1 b14 29 (.slice la ys.length lc) :: rowL la lc ys :: TLp b4 oa oc O fa fc F ca cc wd (pool ++ ys) Ds)) (AA := fun z => relA z ++ (rowL xa xc X :: box1 b14 29 (.slice la ys.length lc) :: rowL la lc ys :: TLp b4 oa oc O fa fc F ca cc wd (pool ++ ys) Ds)) (List.append_nil _).symm (by kernel_rfl) (by rw [hqr]; rfl) rfl (fun w' hw' hH => (just_calls q hqok 1 (rowL xa xc X :: box1 b14 29 (.slice la ys.length lc) :: rowL la lc ys :: TLp b4 oa oc O fa fc F ca cc wd (pool ++ ys) Ds) oa oc O (lst_sub (pool := (pool ++ ys)) (.tail _ (.tail _ (.tail _ (.tail _ (.head _))))) hOp (fun i hi => (.tail _ (.tail _ (.tail _ (.tail _ (.tail _ (.tail _ (.tail _ (List.mem_append_left _ hi)))))))))) (fun l hl => (hOl l hl).1) (fun l hl => (hOl l hl).2) (by omega) (by rw [hqrp]; exact sel_old O F X) w' hH).mono (fun en w'' ⟨h1, g', h2, h3, h4, h5⟩ => ⟨g', h1, ⟨h2, h3, h4⟩, h5⟩)) ?_
          rintro j1 hpp
          obtain ⟨hj1ok, hj1le, hj1es⟩ : RelOK j1 ∧ RelLe q j1 ∧ j1.es = q.es := hpp
          have hj1rp : rp j1 = tag O 1 ++ (tag F 2 ++ tag X 4) := by rw [← hqrp]; unfold rp; rw [hj1es]
          rw [List.append_nil]
          refine WL.val (OV.not rfl) rfl ?_
          refine WL.val (OV.move rfl) rfl ?_
          refine WL.known (t := 123) (b := false) rfl (by rfl) ?_
          refine WL.go (b := false) rfl rfl rfl ?_
          refine WL.val (OV.move rfl) rfl ?_
          refine WL.go (b := false) rfl rfl rfl ?_
          refine WL.val (OV.move rfl) rfl ?_
          refine WL.go (b := false) rfl rfl rfl ?_
          refine WL.callTA (ι := RelG) (vs := [ptr j1.r, .int .i64 2, .slice fa F.length fc]) (vv := fun _ => .bool true) (pp := fun z => RelOK z ∧ RelLe j1 z ∧ z.es = j1.es) (relA j1 ++ (rowL xa xc X :: box1 b14 29 (.slice la ys.length lc) :: rowL la lc ys :: TLp b4 oa oc O fa fc F ca cc wd (pool ++ ys) Ds)) (AA := fun z => relA z ++ (rowL xa xc X :: box1 b14 29 (.slice la ys.length lc) :: rowL la lc ys :: TLp b4 oa oc O fa fc F ca cc wd (pool ++ ys) Ds)) (List.append_nil _).symm (by kernel_rfl) (by rw [hj1le.r, hqr]; rfl) rfl (fun w' hw' hH => (just_calls j1 hj1ok 2 (rowL xa xc X :: box1 b14 29 (.slice la ys.length lc) :: rowL la lc ys :: TLp b4 oa oc O fa fc F ca cc wd (pool ++ ys) Ds) fa fc F (lst_sub (pool := (pool ++ ys)) (.tail _ (.tail _ (.tail _ (.tail _ (.tail _ (.head _)))))) hFp (fun i hi => (.tail _ (.tail _ (.tail _ (.tail _ (.tail _ (.tail _ (.tail _ (List.mem_append_left _ hi)))))))))) (fun l hl => (hFl l hl).1) (fun l hl => (hFl l hl).2) (by omega) (by rw [hj1rp]; exact sel_fresh O F X) w' hH).mono (fun en w'' ⟨h1, g', h2, h3, h4, h5⟩ => ⟨g', h1, ⟨h2, h3, h4⟩, h5⟩)) ?_
          rintro j2 hpp
          obtain ⟨hj2ok, hj2le, hj2es⟩ : RelOK j2 ∧ RelLe j1 j2 ∧ j2.es = j1.es := hpp
          have hj2rp : rp j2 = tag O 1 ++ (tag F 2 ++ tag X 4) := by rw [← hj1rp]; unfold rp; rw [hj2es]
          rw [List.append_nil]
          refine WL.go (b := false) rfl rfl rfl ?_
          refine WL.val (OV.not rfl) rfl ?_
          refine WL.val (OV.pickF rfl rfl) rfl ?_
          refine WL.val (OV.move rfl) rfl ?_
          refine WL.known (t := 129) (b := false) rfl (by rfl) ?_
          refine WL.go (b := false) rfl rfl rfl ?_
          refine WL.val (OV.move rfl) rfl ?_
          refine WL.go (b := false) rfl rfl rfl ?_
          refine WL.val (OV.move rfl) rfl ?_
          refine WL.go (b := false) rfl rfl rfl ?_
          refine WL.callTA (ι := RelG) (vs := [ptr j2.r, .int .i64 4, .slice xa X.length xc]) (vv := fun _ => .bool true) (pp := fun z => RelOK z ∧ RelLe j2 z ∧ z.es = j2.es) (relA j2 ++ (rowL xa xc X :: box1 b14 29 (.slice la ys.length lc) :: rowL la lc ys :: TLp b4 oa oc O fa fc F ca cc wd (pool ++ ys) Ds)) (AA := fun z => relA z ++ (rowL xa xc X :: box1 b14 29 (.slice la ys.length lc) :: rowL la lc ys :: TLp b4 oa oc O fa fc F ca cc wd (pool ++ ys) Ds)) (List.append_nil _).symm (by kernel_rfl) (by rw [hj2le.r, hj1le.r, hqr]; rfl) rfl (fun w' hw' hH => (just_calls j2 hj2ok 4 (rowL xa xc X :: box1 b14 29 (.slice la ys.length lc) :: rowL la lc ys :: TLp b4 oa oc O fa fc F ca cc wd (pool ++ ys) Ds) xa xc X (lst_sub (pool := (pool ++ ys)) (.head _) hXp (fun i hi => (.tail _ (.tail _ (.tail _ (.tail _ (.tail _ (.tail _ (.tail _ (List.mem_append_left _ hi)))))))))) (fun l hl => (hXl l hl).1) (fun l hl => (hXl l hl).2) (by omega) (by rw [hj2rp]; exact sel_next O F X) w' hH).mono (fun en w'' ⟨h1, g', h2, h3, h4, h5⟩ => ⟨g', h1, ⟨h2, h3, h4⟩, h5⟩)) ?_
          rintro j3 hpp
          obtain ⟨hj3ok, hj3le, hj3es⟩ : RelOK j3 ∧ RelLe j2 j3 ∧ j3.es = j2.es := hpp
          have hj3rp : rp j3 = tag O 1 ++ (tag F 2 ++ tag X 4) := by rw [← hj2rp]; unfold rp; rw [hj3es]
          rw [List.append_nil]
          refine WL.go (b := false) rfl rfl rfl ?_
          refine WL.val (OV.not rfl) rfl ?_
          refine WL.val (OV.pickF rfl rfl) rfl ?_
          refine WL.val (OV.move rfl) rfl ?_
          refine WL.known (t := 135) (b := false) rfl (by rfl) ?_
          refine WL.go (b := false) rfl rfl rfl ?_
          refine WL.val (OV.move rfl) rfl ?_
          refine WL.go (b := false) rfl rfl rfl ?_
          refine WL.call0 (v := .int .i64 ((O.length + (F.length + X.length) : Nat) : Int)) (vs := [ptr j3.r, .int .i64 7]) (by kernel_rfl) (by rw [hj3le.r, hj2le.r, hj1le.r, hqr]; rfl) rfl (fun w' hw' => (len_calls j3 hj3ok 7 w' hw'.holds).mono (fun e w'' ⟨h1, h2⟩ => ⟨h1.trans (by rw [len_all hj3ok, hj3es, hj2es, hj1es, hq0l]), h2⟩)) ?_
          refine WL.go (b := false) rfl rfl rfl ?_
          refine WL.val (OV.move rfl) rfl ?_
          refine WL.go (b := false) rfl rfl rfl ?_
          first
          | (refine WL.val (OV.lenSlice rfl T.u29) rfl ?_)
          | (refine WL.val (OV.lenStr rfl T.u29) rfl ?_)
          refine WL.go (b := false) rfl rfl rfl ?_
          refine WL.val (OV.move rfl) rfl ?_
          refine WL.go (b := false) rfl rfl rfl ?_
          first
          | (refine WL.val (OV.lenSlice rfl T.u29) rfl ?_)
          | (refine WL.val (OV.lenStr rfl T.u29) rfl ?_)
          refine WL.go (b := false) rfl rfl rfl ?_
          refine WL.val (OV.addI (a := (O.length : Int)) (b := (F.length : Int)) rfl rfl (by omega)) rfl ?_
          refine WL.go (b := false) rfl rfl rfl ?_
          refine WL.val (OV.move rfl) rfl ?_
          refine WL.go (b := false) rfl rfl rfl ?_
          first
          | (refine WL.val (OV.lenSlice rfl T.u29) rfl ?_)
          | (refine WL.val (OV.lenStr rfl T.u29) rfl ?_)
          refine WL.go (b := false) rfl rfl rfl ?_
          refine WL.val (OV.addI (a := (O.length : Int) + (F.length : Int)) (b := (X.length : Int)) rfl rfl (by omega)) rfl ?_
          refine WL.go (b := false) rfl rfl rfl ?_
          refine WL.val ((OV.neq rfl rfl).cast (u := .bool false) (by simp; omega)) rfl ?_
          refine WL.val (OV.pickF rfl rfl) rfl ?_
          refine WL.nil ?_
          refine WX.next ?_
          refine WC.condF rfl ?_
          refine WC.skip ?_
          refine WX.next ?_
          refine WC.seq ?_
          refine WC.seq ?_
          refine WC.region ?_
          refine WL.alloc T.zr3 rfl ?_
          intro b19
          refine WL.store1 (o := 0) rfl rfl rfl T.z3 Nat.zero_lt_one ?_
          refine WL.nil ?_
          refine WX.next ?_
          refine WC.block ?_
          have hallr : ∀ y ∈ ys, y.l ∈ (tag O 1 ++ (tag F 2 ++ tag X 4)).map (·.1) := fun y hy => by
            obtain ⟨j, hj⟩ := List.mem_iff_getElem?.1 hy
            rw [← hqrp]
            exact hall j y (by have := (List.getElem?_eq_some_iff.1 hj).1; omega) hj
          refine WC.loopM (ι := KS) (fun x => mks x.Ds) (fun x => [(1, .slice (some q1) n c), (4, ptr b4), (5, .int .i64 (wd : Int)), (6, ptr g.r), (8, .slice oa O.length oc), (9, .slice fa F.length fc), (10, .slice ca wd cc), (12, .int .i64 (i : Int)), (13, .slice xa X.length xc), (14, ptr b14), (19, ptr x.b)])
              (fun x w' => (x.k ≤ ys.length ∧ RelOK x.q ∧ x.q.width = wd ∧ x.q.r = g.r ∧ rp x.q = tag O 1 ++ (tag F 2 ++ tag X 4)) ∧ Sat w (fun _ => False) (fun b => b < w.heap.size) w (relA x.q ++ (box1 x.b 3 (.int .i64 (x.k : Int)) :: (rowL xa xc X :: box1 b14 29 (.slice la ys.length lc) :: rowL la lc ys :: TLp b4 oa oc O fa fc F ca cc wd (pool ++ ys) x.Ds))) w')
              (fun x => ys.length - x.k) ⟨0, j3, b19, Ds⟩ rfl ⟨rfl, rfl, rfl, rfl, rfl, rfl, rfl, rfl, rfl, rfl, rfl, trivial⟩ (fun w' hw => ⟨⟨by show 0 ≤ ys.length; omega, hj3ok, hj3le.width.trans (hj2le.width.trans (hj1le.width.trans hqw)), hj3le.r.trans (hj2le.r.trans (hj1le.r.trans hqr)), hj3rp⟩, hw.perm (perm_cat [[box1 b19 3 (.int .i64 0)], relA j3, (rowL xa xc X :: box1 b14 29 (.slice la ys.length lc) :: rowL la lc ys :: TLp b4 oa oc O fa fc F ca cc wd (pool ++ ys) Ds)] [1, 0, 2] (by decide) rfl)⟩) ?_
          clear hall hqok hqw hqr hql hqwl hqel hk hke
          rename_i kold
          rintro ⟨k, q, bk, Ds⟩
          refine WC.env (e' := [(1, .slice (some q1) n c), (4, ptr b4), (5, .int .i64 (wd : Int)), (6, ptr g.r), (8, .slice oa O.length oc), (9, .slice fa F.length fc), (10, .slice ca wd cc), (12, .int .i64 (i : Int)), (13, .slice xa X.length xc), (14, ptr b14), (19, ptr bk)]) ⟨rfl, rfl, rfl, rfl, rfl, rfl, rfl, rfl, rfl, rfl, rfl, trivial⟩ ?_
          refine WC.weak (S' := fun w' => (k ≤ ys.length ∧ RelOK q ∧ q.width = wd ∧ q.r = g.r ∧ rp q = tag O 1 ++ (tag F 2 ++ tag X 4)) ∧ Sat w (fun _ => False) (fun b => b < w.heap.size) w (relA q ++ (box1 bk 3 (.int .i64 (k : Int)) :: (rowL xa xc X :: box1 b14 29 (.slice la ys.length lc) :: rowL la lc ys :: TLp b4 oa oc O fa fc F ca cc wd (pool ++ ys) Ds))) w') (fun _ h => h) ?_
          refine WC.pure (fun hk => ?_)
          obtain ⟨hk, hqok, hqw, hqr, hqrp⟩ := hk
          refine WC.seq ?_
          refine WC.seq ?_
          refine WC.region ?_
          refine WL.val (OV.load1 (v := .int .i64 (k : Int)) rfl T.u3 rfl (fun _ hw => cell_own hw (List.mem_append_right _ (.head _)) rfl)) rfl ?_
          refine WL.val (OV.load1 (v := .slice la ys.length lc) rfl T.u29 rfl (fun _ hw => cell_own hw (List.mem_append_right _ (.tail _ (.tail _ (.head _)))) rfl)) rfl ?_
          first
          | (refine WL.val (OV.lenSlice rfl T.u29) rfl ?_)
          | (refine WL.val (OV.lenStr rfl T.u29) rfl ?_)
          refine WL.val (OV.lss rfl rfl) rfl ?_
          refine WL.nil ?_
          refine WX.next ?_
          refine WC.cond rfl (fun c151 => ?_) (fun c151 => ?_)
          · try simp only [decide_eq_true_eq, decide_eq_false_iff_not, Bool.not_eq_true', Bool.not_eq_false'] at c151
            refine WC.skip ?_
            refine WX.next ?_
            refine WC.seq ?_
            refine WC.block ?_
            refine WC.seq ?_
            refine WC.region ?_
            refine WL.val (OV.move rfl) rfl ?_
            refine WL.val (OV.load1 (v := .slice la ys.length lc) rfl T.u29 rfl (fun _ hw => cell_own hw (List.mem_append_right _ (.tail _ (.tail _ (.head _)))) rfl)) rfl ?_
            refine WL.val (OV.load1 (v := .int .i64 (k : Int)) rfl T.u3 rfl (fun _ hw => cell_own hw (List.mem_append_right _ (.head _)) rfl)) rfl ?_
            obtain ⟨y, hy, hym, hyl, hyi, hyw⟩ := col_wide hys hrl.i64 (k := k) (by omega)
            have hyn : y.l.length ≤ 1099511627776 := by omega
            obtain ⟨q5, hq5⟩ := hla (by omega)
            refine WL.val (OV.indexSliceA (a := ⟨q5, 0, none⟩) (i := k) (show _ = some (Value.slice (some ⟨q5, 0, none⟩) ys.length lc) by rw [← hq5]; rfl) rfl T.u29 T.z23 (by omega)) rfl ?_
            refine WL.val (OV.load1 (v := encC y) rfl T.u23 rfl (fun _ hw => row_cellsE hw hq5 (List.mem_append_right _ (.tail _ (.tail _ (.tail _ (.head _))))) k _ (by rw [List.getElem?_map, hy]; rfl))) rfl ?_
            refine WL.call0 (v := .int .i64 (partOf q.es y.l : Int)) (vs := [ptr q.r, encC y]) (by kernel_rfl) (by rw [hqr]; rfl) rfl (fun w' hw' => part_calls q hqok y.l y.a y.l.length y.c hyi hyn w' (RI.of_row (c := y.c) hw' (List.mem_append_right _ (.tail _ (.tail _ (.tail _ (.tail _ (.tail _ (.tail _ (.tail _ (.tail _ (List.mem_append_left _ (List.mem_flatMap.2 ⟨y, List.mem_append_right _ hym, .head _⟩)))))))))))) hw'.holds) ?_
            obtain ⟨pt, hpt⟩ : ∃ z, z = partOf q.es y.l := ⟨_, rfl⟩
            rw [← hpt]
            have hyrows : y.l ∈ (tag O 1 ++ (tag F 2 ++ tag X 4)).map (·.1) := hallr y hym
            refine WL.val (OV.assign rfl) rfl ?_
            refine WL.nil ?_
            refine WX.next ?_
            refine WC.seq ?_
            refine WC.region ?_
            refine WL.val (OV.assign rfl) rfl ?_
            refine WL.nil ?_
            refine WX.next ?_
            refine WC.block ?_
            have hptr : (((tag O 1 ++ (tag F 2 ++ tag X 4)).find? fun p => p.1 = y.l).map (·.2)).getD 0 = pt := by rw [hpt, partOf_rp, hqrp]
            refine WC.loopM (ι := ES) (fun x => mks x.Ds) (fun x => [(1, .slice (some q1) n c), (4, ptr b4), (5, .int .i64 (wd : Int)), (6, ptr g.r), (8, .slice oa O.length oc), (9, .slice fa F.length fc), (10, .slice ca wd cc), (12, .int .i64 (i : Int)), (13, .slice xa X.length xc), (14, ptr b14), (19, ptr bk), (20, .int .i64 (pt : Int)), (21, .int .i64 ((2 ^ x.e : Nat) : Int))])
                (fun x w' => (x.e ≤ 3 ∧ RelOK x.q ∧ x.q.width = wd ∧ x.q.r = g.r ∧ rp x.q = tag O 1 ++ (tag F 2 ++ tag X 4)) ∧ Sat w (fun _ => False) (fun b => b < w.heap.size) w (relA x.q ++ (box1 bk 3 (.int .i64 (k : Int)) :: (rowL xa xc X :: box1 b14 29 (.slice la ys.length lc) :: rowL la lc ys :: TLp b4 oa oc O fa fc F ca cc wd (pool ++ ys) x.Ds))) w')
                (fun x => 3 - x.e) ⟨0, q, Ds⟩ rfl ⟨rfl, rfl, rfl, rfl, rfl, rfl, rfl, rfl, rfl, rfl, rfl, rfl, rfl, trivial⟩ (fun w' hw => ⟨⟨by show 0 ≤ 3; omega, hqok, hqw, hqr, hqrp⟩, hw⟩) ?_
            clear hpt hqok hqw hqr hqrp
            rintro ⟨e, q, Ds⟩
            refine WC.env (e' := [(1, .slice (some q1) n c), (4, ptr b4), (5, .int .i64 (wd : Int)), (6, ptr g.r), (8, .slice oa O.length oc), (9, .slice fa F.length fc), (10, .slice ca wd cc), (12, .int .i64 (i : Int)), (13, .slice xa X.length xc), (14, ptr b14), (19, ptr bk), (20, .int .i64 (pt : Int)), (21, .int .i64 ((2 ^ e : Nat) : Int))]) ⟨rfl, rfl, rfl, rfl, rfl, rfl, rfl, rfl, rfl, rfl, rfl, rfl, rfl, trivial⟩ ?_
            refine WC.weak (S' := fun w' => (e ≤ 3 ∧ RelOK q ∧ q.width = wd ∧ q.r = g.r ∧ rp q = tag O 1 ++ (tag F 2 ++ tag X 4)) ∧ Sat w (fun _ => False) (fun b => b < w.heap.size) w (relA q ++ (box1 bk 3 (.int .i64 (k : Int)) :: (rowL xa xc X :: box1 b14 29 (.slice la ys.length lc) :: rowL la lc ys :: TLp b4 oa oc O fa fc F ca cc wd (pool ++ ys) Ds))) w') (fun _ h => h) ?_
            refine WC.pure (fun he => ?_)
            obtain ⟨he, hqok, hqw, hqr, hqrp⟩ := he
            have hpow : (((2 ^ e : Nat) : Int) < 8 → e < 3) ∧ (¬ ((2 ^ e : Nat) : Int) < 8 → e = 3) := by
              have : e = 0 ∨ e = 1 ∨ e = 2 ∨ e = 3 := by omega
              rcases this with rfl | rfl | rfl | rfl <;> simp
            refine WC.seq ?_
            refine WC.seq ?_
            refine WC.region ?_
            refine WL.val (OV.move rfl) rfl ?_
            refine WL.val (OV.lss rfl rfl) rfl ?_
            refine WL.nil ?_
            refine WX.next ?_
            refine WC.cond rfl (fun c161 => ?_) (fun c161 => ?_)
            · try simp only [decide_eq_true_eq, decide_eq_false_iff_not, Bool.not_eq_true', Bool.not_eq_false'] at c161
              refine WC.skip ?_
              refine WX.next ?_
              refine WC.seq ?_
              refine WC.block ?_
              refine WC.seq ?_
              refine WC.region ?_
              refine WL.alloc T.zr3 rfl ?_
              intro b22
              refine WL.store1 (o := 0) rfl rfl rfl T.z3 Nat.zero_lt_one ?_
              refine WL.nil ?_
              refine WX.next ?_
              refine WC.seq ?_
              refine WC.focus (ow' := relA q ++ (box1 b22 3 (.int .i64 0) :: (box1 bk 3 (.int .i64 (k : Int)) :: (rowL xa xc X :: box1 b14 29 (.slice la ys.length lc) :: rowL la lc ys :: TLp b4 oa oc O fa fc F ca cc wd (pool ++ ys) Ds)))) (perm_cat [[box1 b22 3 (.int .i64 0)], relA q, (box1 bk 3 (.int .i64 (k : Int)) :: (rowL xa xc X :: box1 b14 29 (.slice la ys.length lc) :: rowL la lc ys :: TLp b4 oa oc O fa fc F ca cc wd (pool ++ ys) Ds))] [1, 0, 2] (by decide) rfl) ?_
              refine WC.region ?_
              refine WL.val (OV.move rfl) rfl ?_
              refine WL.val (OV.move rfl) rfl ?_
              refine WL.val (OV.move rfl) rfl ?_
              refine WL.val (OV.load1 (v := .slice la ys.length lc) rfl T.u29 rfl (fun _ hw => cell_own hw (List.mem_append_right _ (.tail _ (.tail _ (.tail _ (.head _))))) rfl)) rfl ?_
              refine WL.val (OV.load1 (v := .int .i64 (k : Int)) rfl T.u3 rfl (fun _ hw => cell_own hw (List.mem_append_right _ (.tail _ (.head _))) rfl)) rfl ?_
              refine WL.val (OV.indexSliceA (a := ⟨q5, 0, none⟩) (i := k) (show _ = some (Value.slice (some ⟨q5, 0, none⟩) ys.length lc) by rw [← hq5]; rfl) rfl T.u29 T.z23 (by omega)) rfl ?_
              refine WL.val (OV.load1 (v := encC y) rfl T.u23 rfl (fun _ hw => row_cellsE hw hq5 (List.mem_append_right _ (.tail _ (.tail _ (.tail _ (.tail _ (.head _)))))) k _ (by rw [List.getElem?_map, hy]; rfl))) rfl ?_
              have he3 : e < 3 := hpow.1 c161
              refine WL.callTA (ι := FB) (vs := [ptr q.r, .int .i64 ((2 ^ e : Nat) : Int), .slice ca wd cc, encC y]) (vv := fun F => F.fn) (pp := fun F => F.r = q.r ∧ F.parts = ((2 ^ e : Nat) : Int) ∧ QR q.width (colsL wd) y.l F.ls F.ks F.b ∧ RelOK (colG q F.col)) (relA q) (AA := fun F => relA (colG q F.col) ++ boxA F) rfl (by kernel_rfl) (by rw [hqr]; rfl) rfl (fun w' hw' hH => (find_calls q hqok ((2 ^ e : Nat) : Int) (colsL wd) y.l ca wd cc y.a y.l.length y.c (colsL_i64 hw5) hyi (by omega) hyn w' (RI.of_row' (colsL_length wd) hw' (List.mem_append_right _ (.tail _ (.tail _ (.tail _ (.tail _ (.tail _ (.tail _ (.tail _ (.tail _ (.head _))))))))))) (RI.of_row (c := y.c) hw' (List.mem_append_right _ (.tail _ (.tail _ (.tail _ (.tail _ (.tail _ (.tail _ (.tail _ (.tail _ (.tail _ (List.mem_append_left _ (List.mem_flatMap.2 ⟨y, List.mem_append_right _ hym, .head _⟩))))))))))))) (fun b hb _ => Sat.sepO (i := row 3 1 ca wd cc (ints (colsL wd))) hw' (.tail _ (.tail _ (.tail _ (.tail _ (.tail _ (.tail _ (.tail _ (.tail _ (.head _))))))))) ⟨b, hb, rfl⟩) (fun b hb _ => Sat.sepO (i := row 3 1 y.a y.l.length y.c (ints y.l)) hw' (.tail _ (.tail _ (.tail _ (.tail _ (.tail _ (.tail _ (.tail _ (.tail _ (.tail _ (List.mem_append_left _ (List.mem_flatMap.2 ⟨y, List.mem_append_right _ hym, .head _⟩))))))))))) ⟨b, hb, rfl⟩) hH).mono (fun en w'' ⟨F, h1, h2, h3, h4, h5, h6⟩ => ⟨F, h1, ⟨h2, h3, h4, h5⟩, h6⟩)) ?_
              rintro Fb hpp
              obtain ⟨hFr, hFpp, hFq, g2ok⟩ : Fb.r = q.r ∧ Fb.parts = ((2 ^ e : Nat) : Int) ∧ QR q.width (colsL wd) y.l Fb.ls Fb.ks Fb.b ∧ RelOK (colG q Fb.col) := hpp
              obtain ⟨FL, hFL⟩ : ∃ FL, FL = selR (rp (colG q Fb.col)) Fb.parts (colsL wd) y.l := ⟨_, rfl⟩
              have hone := sel_one g2ok (l := y.l) (by show y.l ∈ (rp q).map (·.1); rw [hqrp]; exact hyrows) he3
              rw [show (colG q Fb.col).width = wd from hqw, ← hFpp, ← hFL] at hone
              obtain ⟨hone1, hone2, hone3⟩ := hone
              have hpt2 : partOf (colG q Fb.col).es y.l = pt := by rw [partOf_rp, show rp (colG q Fb.col) = tag O 1 ++ (tag F 2 ++ tag X 4) from hqrp]; exact hptr
              rw [hpt2] at hone3
              refine WL.val (OV.assign rfl) rfl ?_
              refine WL.nil ?_
              refine WX.next ?_
              refine WC.seq ?_
              refine WC.seq ?_
              refine WC.region ?_
              refine WL.val (OV.move rfl) rfl ?_
              refine WL.val (OV.eqlFN T.u32 rfl rfl) rfl ?_
              refine WL.nil ?_
              refine WX.next ?_
              refine WC.condF rfl ?_
              refine WC.skip ?_
              refine WX.next ?_
              refine WC.seq ?_
              refine WC.seq ?_
              refine WC.focus (ow' := (relA (colG q Fb.col) ++ boxA Fb) ++ ((box1 b22 3 (.int .i64 0) :: (box1 bk 3 (.int .i64 (k : Int)) :: (rowL xa xc X :: box1 b14 29 (.slice la ys.length lc) :: rowL la lc ys :: TLp b4 oa oc O fa fc F ca cc wd (pool ++ ys) Ds))) ++ [])) (List.Perm.of_eq (by rw [List.append_nil])) ?_
              refine WC.region ?_
              refine WL.val (OV.move rfl) rfl ?_
              refine WL.nil ?_
              refine WX.next ?_
              refine WC.block ?_
              refine WC.rangeFunc (RA := fun q => relA q ++ boxA Fb) (CC := fun nn : Nat => (box1 b22 3 (.int .i64 (nn : Int)) :: (box1 bk 3 (.int .i64 (k : Int)) :: (rowL xa xc X :: box1 b14 29 (.slice la ys.length lc) :: rowL la lc ys :: TLp b4 oa oc O fa fc F ca cc wd (pool ++ ys) Ds)))) (EI := EIr) (arg := argr) (xs := FL) (g0 := colG q Fb.col) (y0 := 0) (R01 := fun z => RelOK z ∧ RelLe (colG q Fb.col) z ∧ z.es = (colG q Fb.col).es) (Mono := fun z => RelLe (colG q Fb.col) z) (gf := 30) (caps := Fb.caps) (ow := []) rfl rfl (by kernel_rfl) rfl (fun w' _ => by rw [hFL]; exact find1_iter Fb (colG q Fb.col) g2ok (colsL wd) y.l hFq hFr (List.mem_append_right _ (.head _)) w')
                (fun kk z nn => RelOK z ∧ RelLe (colG q Fb.col) z ∧ z.es = (colG q Fb.col).es ∧ nn = kk) (fun _ _ _ _ => False) (fun z hz => ⟨hz.1, hz.2.1, hz.2.2, rfl⟩) (fun kk z y h => h.2.1) ?_ ?_ ?_
              · rintro l lr kk q2 nn d W x hxs hJ hS
                obtain ⟨okq2, leq2, hqe2, hnn⟩ : RelOK q2 ∧ RelLe (colG q Fb.col) q2 ∧ q2.es = (colG q Fb.col).es ∧ nn = kk := hJ
                subst hnn
                obtain ⟨kk, hk⟩ : ∃ z, z = nn := ⟨_, rfl⟩
                rw [← hk] at hS ⊢
                rw [← hk] at hxs
                clear hk
                have hkl : kk < FL.length := (List.getElem?_eq_some_iff.1 hxs).1
                refine WC.region ?_
                refine WL.val (OV.assign rfl) rfl ?_
                refine WL.nil ?_
                refine WX.begin ?_
                refine WC.focus (ow' := (relA q2 ++ boxA Fb) ++ ((box1 b22 3 (.int .i64 (kk : Int)) :: (box1 bk 3 (.int .i64 (k : Int)) :: (rowL xa xc X :: box1 b14 29 (.slice la ys.length lc) :: rowL la lc ys :: TLp b4 oa oc O fa fc F ca cc wd (pool ++ ys) Ds))) ++ (row 3 1 d.1 x.length d.2 (ints x) :: own l (lr.ob .busy none) :: []))) (perm_cat [[own l (lr.ob .busy none)], [row 3 1 d.1 x.length d.2 (ints x)], (relA q2 ++ boxA Fb), (box1 b22 3 (.int .i64 (kk : Int)) :: (box1 bk 3 (.int .i64 (k : Int)) :: (rowL xa xc X :: box1 b14 29 (.slice la ys.length lc) :: rowL la lc ys :: TLp b4 oa oc O fa fc F ca cc wd (pool ++ ys) Ds)))] [2, 3, 1, 0] (by decide) rfl) ?_
                refine WC.block ?_
                refine WC.seq ?_
                refine WC.seq ?_
                refine WC.region ?_
                refine WL.val (OV.move rfl) rfl ?_
                refine WL.val (OV.load1 (v := .slice la ys.length lc) rfl T.u29 rfl (fun _ hw => cell_own hw (List.mem_append_right _ (List.mem_append_left _ (.tail _ (.tail _ (.tail _ (.head _)))))) rfl)) rfl ?_
                refine WL.val (OV.load1 (v := .int .i64 (k : Int)) rfl T.u3 rfl (fun _ hw => cell_own hw (List.mem_append_right _ (List.mem_append_left _ (.tail _ (.head _)))) rfl)) rfl ?_
                refine WL.val (OV.indexSliceA (a := ⟨q5, 0, none⟩) (i := k) (show _ = some (Value.slice (some ⟨q5, 0, none⟩) ys.length lc) by rw [← hq5]; rfl) rfl T.u29 T.z23 (by omega)) rfl ?_
                refine WL.val (OV.load1 (v := encC y) rfl T.u23 rfl (fun _ hw => row_cellsE hw hq5 (List.mem_append_right _ (List.mem_append_left _ (.tail _ (.tail _ (.tail _ (.tail _ (.head _))))))) k _ (by rw [List.getElem?_map, hy]; rfl))) rfl ?_
                have hxy : x = y.l := hone1 x (List.mem_of_getElem? hxs)
                refine WL.call0 (v := .bool true) (vs := [argr x d, encC y]) (by kernel_rfl) rfl rfl (fun w' hw' => (same_calls x y.l d.1 y.a x.length d.2 y.l.length y.c (by rw [hxy]; exact hyn) hyn w' (RI.of_row (c := d.2) hw' (List.mem_append_right _ (List.mem_append_right _ (.head _)))) (RI.of_row (c := y.c) hw' (List.mem_append_right _ (List.mem_append_left _ (.tail _ (.tail _ (.tail _ (.tail _ (.tail _ (.tail _ (.tail _ (.tail _ (.tail _ (List.mem_append_left _ (List.mem_flatMap.2 ⟨y, List.mem_append_right _ hym, .head _⟩))))))))))))))).mono (fun en w'' ⟨h1, h2⟩ => ⟨h1.trans (by rw [decide_eq_true hxy]), h2⟩)) ?_
                refine WL.val (OV.not rfl) rfl ?_
                refine WL.nil ?_
                refine WX.next ?_
                refine WC.condF rfl ?_
                refine WC.skip ?_
                refine WX.next ?_
                refine WC.region ?_
                refine WL.val (OV.load1 (v := .int .i64 (kk : Int)) rfl T.u3 rfl (fun _ hw => cell_own hw (List.mem_append_right _ (List.mem_append_left _ (.head _))) rfl)) rfl ?_
                first
                | (refine WL.val (OV.addI rfl rfl (by omega)) rfl ?_)
                | (refine WL.val (OV.add rfl rfl) rfl ?_)
                refine WL.focus (ow' := box1 b22 3 (.int .i64 (kk : Int)) :: ((relA q2 ++ boxA Fb) ++ ((box1 bk 3 (.int .i64 (k : Int)) :: (rowL xa xc X :: box1 b14 29 (.slice la ys.length lc) :: rowL la lc ys :: TLp b4 oa oc O fa fc F ca cc wd (pool ++ ys) Ds)) ++ (row 3 1 d.1 x.length d.2 (ints x) :: own l (lr.ob .busy none) :: [])))) (perm_cat [(relA q2 ++ boxA Fb), [box1 b22 3 (.int .i64 (kk : Int))], (box1 bk 3 (.int .i64 (k : Int)) :: (rowL xa xc X :: box1 b14 29 (.slice la ys.length lc) :: rowL la lc ys :: TLp b4 oa oc O fa fc F ca cc wd (pool ++ ys) Ds)), (row 3 1 d.1 x.length d.2 (ints x) :: own l (lr.ob .busy none) :: [])] [1, 0, 2, 3] (by decide) rfl) (WL.store1 (o := 0) rfl rfl rfl T.z3 Nat.zero_lt_one ?_)
                refine WL.nil ?_
                refine WX.block_normal ?_
                refine WX.focus (ow' := own l (lr.ob .busy none) :: (box1 b22 3 (.int .i64 ((kk + 1 : Nat) : Int)) :: ((relA q2 ++ boxA Fb) ++ ((box1 bk 3 (.int .i64 (k : Int)) :: (rowL xa xc X :: box1 b14 29 (.slice la ys.length lc) :: rowL la lc ys :: TLp b4 oa oc O fa fc F ca cc wd (pool ++ ys) Ds)) ++ [row 3 1 d.1 x.length d.2 (ints x)])))) (perm_cat [[box1 b22 3 (.int .i64 ((kk + 1 : Nat) : Int))], (relA q2 ++ boxA Fb), (box1 bk 3 (.int .i64 (k : Int)) :: (rowL xa xc X :: box1 b14 29 (.slice la ys.length lc) :: rowL la lc ys :: TLp b4 oa oc O fa fc F ca cc wd (pool ++ ys) Ds)), [row 3 1 d.1 x.length d.2 (ints x)], [own l (lr.ob .busy none)]] [4, 0, 1, 2, 3] (by decide) rfl) (WX.roundEnd (fun w' hw => ⟨q2, kk + 1, lr.ob .ready none, fun _ => ⟨⟨okq2, leq2, hqe2, rfl⟩, rfl⟩, fun h => (by cases h), ?_⟩))
                exact Hw.Sat.turned (hw.pick [[own l (lr.ob .ready none)], [box1 b22 3 (.int .i64 ((kk + 1 : Nat) : Int))], (relA q2 ++ boxA Fb), (box1 bk 3 (.int .i64 (k : Int)) :: (rowL xa xc X :: box1 b14 29 (.slice la ys.length lc) :: rowL la lc ys :: TLp b4 oa oc O fa fc F ca cc wd (pool ++ ys) Ds)), [row 3 1 d.1 x.length d.2 (ints x)]] [0, 2, 1, 3] 5 rfl (by decide) (by decide))
              · intro D q2 nn hJ
                obtain ⟨okq2, leq2, hqe2, hnn⟩ : RelOK q2 ∧ RelLe (colG q Fb.col) q2 ∧ q2.es = (colG q Fb.col).es ∧ nn = FL.length := hJ
                refine WX.block_normal ?_
                refine WX.next ?_
                refine WC.seq ?_
                refine WC.region ?_
                refine WL.val (OV.load1 (v := .int .i64 (nn : Int)) rfl T.u3 rfl (fun _ hw => cell_own hw (.tail _ (List.mem_append_right _ (List.mem_append_left _ (.head _)))) rfl)) rfl ?_
                refine WL.val (OV.gtr rfl rfl) rfl ?_
                refine WL.val (OV.move rfl) rfl ?_
                refine WL.known (t := 187) (b := false) rfl (by exact decide_eq_false (by omega)) ?_
                refine WL.go (b := false) rfl rfl rfl ?_
                refine WL.val (OV.load1 (v := .int .i64 (nn : Int)) rfl T.u3 rfl (fun _ hw => cell_own hw (.tail _ (List.mem_append_right _ (List.mem_append_left _ (.head _)))) rfl)) rfl ?_
                refine WL.go (b := false) rfl rfl rfl ?_
                refine WL.val (OV.eql rfl rfl) rfl ?_
                refine WL.go (b := false) rfl rfl rfl ?_
                refine WL.val (OV.move rfl) rfl ?_
                refine WL.go (b := false) rfl rfl rfl ?_
                refine WL.val (OV.move rfl) rfl ?_
                refine WL.go (b := false) rfl rfl rfl ?_
                refine WL.val (OV.eql rfl rfl) rfl ?_
                refine WL.go (b := false) rfl rfl rfl ?_
                refine WL.val ((OV.neqB T.u4 rfl rfl).cast (u := .bool false) (by
                  congr 1
                  have h1 : decide ((nn : Int) = 1) = decide ((pt : Int) = ((2 ^ e : Nat) : Int)) := decide_eq_decide.2 (by
                    rw [hnn]
                    constructor
                    · intro h; have := hone3.1 (by omega); rw [this]
                    · intro h; have := hone3.2 (Int.ofNat.inj h); omega)
                  rw [h1]
                  simp)) rfl ?_
                refine WL.val (OV.pickF rfl rfl) rfl ?_
                refine WL.nil ?_
                refine WX.next ?_
                refine WC.condF rfl ?_
                refine WC.skip ?_
                refine WX.block_normal ?_
                refine WX.next ?_
                refine WC.region ?_
                refine WL.val (OV.move rfl) rfl ?_
                refine WL.val ((OV.mulI rfl rfl (by have h0 : (0:Int) ≤ ((2 ^ e : Nat) : Int) := Int.natCast_nonneg _
                                                    have h8 : ((2 ^ e : Nat) : Int) < 8 := c161
                                                    revert h0 h8
                                                    generalize ((2 ^ e : Nat) : Int) = q
                                                    intro h0 h8
                                                    constructor <;> omega)).cast (u := .int .i64 ((2 ^ (e + 1) : Nat) : Int)) (by rw [Nat.pow_succ, Int.natCast_mul]; rfl)) rfl ?_
                refine WL.val (OV.assign rfl) rfl ?_
                refine WL.nil ?_
                exact WX.roundM (ES.mk (e + 1) q2 (D :: Ds)) rfl ⟨rfl, rfl, rfl, rfl, rfl, rfl, rfl, rfl, rfl, rfl, rfl, rfl, rfl, trivial⟩ (fun w' hw => ⟨⟨by show e + 1 ≤ 3; omega, okq2, leq2.width.trans hqw, leq2.r.trans hqr, by show rp q2 = _; rw [← hqrp]; unfold rp; rw [hqe2]; rfl⟩, (hw.perm (List.Perm.of_eq (by simp [cat, TLp]))).pick [[own D (.deferred (some []))], relA q2, boxA Fb, [box1 b22 3 (.int .i64 (nn : Int))], [box1 bk 3 (.int .i64 (k : Int)), rowL xa xc X, box1 b14 29 (.slice la ys.length lc), rowL la lc ys, box1 b4 4 (.bool false), rowL oa oc O, rowL fa fc F, row 3 1 ca wd cc (ints (colsL wd))], (pool ++ ys).flatMap colA, mkA Ds] [1, 4, 5, 0, 6] 7 rfl (by decide) (by decide)⟩) (by show 3 - (e + 1) < 3 - e; omega)
              · intro D c k g2 y2 hJ
                exact hJ.elim
            · try simp only [decide_eq_true_eq, decide_eq_false_iff_not, Bool.not_eq_true', Bool.not_eq_false'] at c161
              refine WC.exit ?_
              refine WX.then_exit ?_
              refine WX.then_exit ?_
              refine WX.block_hit ?_
              refine WX.block_normal ?_
              refine WX.next ?_
              refine WC.seq ?_
              refine WC.seq ?_
              refine WC.region ?_
              refine WL.val (OV.load1 (v := .int .i64 (k : Int)) rfl T.u3 rfl (fun _ hw => cell_own hw (List.mem_append_right _ (.head _)) rfl)) rfl ?_
              refine WL.nil ?_
              refine WX.next ?_
              refine WC.region ?_
              refine WL.alloc T.zr3 rfl ?_
              intro b19
              refine WL.store1 (o := 0) rfl rfl rfl T.z3 Nat.zero_lt_one ?_
              refine WL.nil ?_
              refine WX.next ?_
              refine WC.region ?_
              refine WL.val (OV.load1 (v := .int .i64 (k : Int)) rfl T.u3 rfl (fun _ hw => cell_own hw (.head _) rfl)) rfl ?_
              first
              | (refine WL.val (OV.addI rfl rfl (by omega)) rfl ?_)
              | (refine WL.val (OV.add rfl rfl) rfl ?_)
              refine WL.store1 (o := 0) rfl rfl rfl T.z3 Nat.zero_lt_one ?_
              refine WL.nil ?_
              exact WX.roundM (KS.mk (k + 1) q b19 Ds) rfl ⟨rfl, rfl, rfl, rfl, rfl, rfl, rfl, rfl, rfl, rfl, rfl, trivial⟩ (fun w' hw => ⟨⟨by show k + 1 ≤ ys.length; omega, hqok, hqw, hqr, hqrp⟩, hw.pick [[box1 b19 3 (.int .i64 ((k + 1 : Nat) : Int))], relA q, [box1 bk 3 (.int .i64 (k : Int))], (rowL xa xc X :: box1 b14 29 (.slice la ys.length lc) :: rowL la lc ys :: TLp b4 oa oc O fa fc F ca cc wd (pool ++ ys) Ds)] [1, 0, 3] 4 rfl (by decide) (by decide)⟩) (by show ys.length - (k + 1) < ys.length - k; omega)
          · try simp only [decide_eq_true_eq, decide_eq_false_iff_not, Bool.not_eq_true', Bool.not_eq_false'] at c151
            refine WC.exit ?_
            refine WX.then_exit ?_
            refine WX.then_exit ?_
            refine WX.block_hit ?_
            refine WX.next ?_
            refine WC.seq ?_
            refine WC.seq ?_
            refine WC.region ?_
            refine WL.val (OV.move rfl) rfl ?_
            refine WL.callTA (ι := Unit) (vs := [ptr q.r]) (vv := fun _ => .int .i64 (X.length : Int)) (pp := fun _ => True) (relA q) (AA := fun _ => relA (turnG q)) rfl (by kernel_rfl) (by rw [hqr]; rfl) rfl (fun w' hw' hH => (turn_calls q hqok w' hH).mono (fun en w'' ⟨h1, h2⟩ => ⟨(), h1.trans (by rw [ns_tags hqok hqrp]), trivial, h2⟩)) ?_
            rintro _ _
            refine WL.val (OV.move rfl) rfl ?_
            first
            | (refine WL.val (OV.lenSlice rfl T.u29) rfl ?_)
            | (refine WL.val (OV.lenStr rfl T.u29) rfl ?_)
            refine WL.val ((OV.neq rfl rfl).cast (u := .bool false) (by simp)) rfl ?_
            refine WL.nil ?_
            refine WX.next ?_
            refine WC.condF rfl ?_
            refine WC.skip ?_
            refine WX.next ?_
            refine WC.seq ?_
            refine WC.region ?_
            refine WL.val (OV.move rfl) rfl ?_
            refine WL.val (OV.move rfl) rfl ?_
            refine WL.focus (ow' := rowL oa oc O :: (relA (turnG q) ++ ([box1 bk 3 (.int .i64 (k : Int)), rowL xa xc X, box1 b14 29 (.slice la ys.length lc), rowL la lc ys, box1 b4 4 (.bool false)] ++ ([rowL fa fc F, row 3 1 ca wd cc (ints (colsL wd))] ++ ((pool ++ ys).flatMap colA ++ mkA Ds))))) ((perm_cat [relA (turnG q), [box1 bk 3 (.int .i64 (k : Int)), rowL xa xc X, box1 b14 29 (.slice la ys.length lc), rowL la lc ys, box1 b4 4 (.bool false)], [rowL oa oc O], [rowL fa fc F, row 3 1 ca wd cc (ints (colsL wd))], (pool ++ ys).flatMap colA, mkA Ds] [2, 0, 1, 3, 4, 5] (by decide) rfl)) (WL.append (news := F.map encC) rfl rfl T.apR (fun _ hw => row_src (T := 23) (cap := fc) (.tail _ (List.mem_append_right _ (List.mem_append_right _ (.head _)))) hw) (encC_one F) ⟨by omega, by unfold maxLen; omega⟩ rfl ?_)
            intro a203 c203
            refine WL.val (OV.assign rfl) rfl ?_
            refine WL.nil ?_
            refine WX.next ?_
            refine WC.region ?_
            refine WL.val (OV.move rfl) rfl ?_
            refine WL.val (OV.assign rfl) rfl ?_
            refine WL.nil ?_
            refine WX.block_normal ?_
            refine WX.next ?_
            refine WC.region ?_
            refine WL.val (OV.move rfl) rfl ?_
            first
            | (refine WL.val (OV.addI rfl rfl (by omega)) rfl ?_)
            | (refine WL.val (OV.add rfl rfl) rfl ?_)
            refine WL.val (OV.assign rfl) rfl ?_
            refine WL.nil ?_
            have hlen2 : (turnG q).es.length = q.es.length := by simp [turnG]
            have hq9 : q.es.length = O.length + (F.length + X.length) := by have h1 := es_len hqrp; simpa [tag_length] using h1
            refine WX.roundM (PS.mk (i + 1) (turnG q) a203 c203 (O ++ F) xa xc X (pool ++ ys) Ds) rfl ⟨rfl, rfl, rfl, by rw [show (turnG q).r = g.r from hqr]; rfl, by show _ = some (Value.slice a203 (O ++ F).length c203); rw [List.length_append]; rfl, rfl, rfl, rfl, trivial⟩ (fun w' hw => ⟨⟨by show i + 1 ≤ n; omega, turnG_ok hqok, hqw, by show rp (turnG q) = _; rw [rp_turn, hqrp, turn_tags]; simp [tag], by show (turnG q).es.length ≤ ((bs.take (i + 1)).map List.length).sum; omega, fun c hc => ?_, fun c hc => List.mem_append_right _ (hXy c hc)⟩, ?_⟩) (by show n - (i + 1) < n - i; omega)
            · rcases List.mem_append.1 hc with hc | hc
              · exact List.mem_append_left _ (hO c hc)
              · exact List.mem_append_left _ (hF c hc)
            · show Sat _ _ _ _ (_ ++ (_ :: row 23 1 a203 (O ++ F).length c203 ((O ++ F).map encC) :: _)) _
              rw [List.length_append, List.map_append]
              exact hw.pick [[row 23 1 a203 (O.length + F.length) c203 (O.map encC ++ F.map encC)], relA (turnG q), [box1 bk 3 (.int .i64 (k : Int))], [rowL xa xc X], [box1 b14 29 (.slice la ys.length lc), rowL la lc ys], [box1 b4 4 (.bool false)], [rowL fa fc F], [row 3 1 ca wd cc (ints (colsL wd))], (pool ++ ys).flatMap colA, mkA Ds] [1, 5, 0, 3, 7, 8, 9] 10 rfl (by decide) (by decide)
      · try simp only [decide_eq_true_eq, decide_eq_false_iff_not, Bool.not_eq_true', Bool.not_eq_false'] at c58
        refine WC.exit ?_
        refine WX.then_exit ?_
        refine WX.then_exit ?_
        refine WX.block_hit ?_
        refine WX.next ?_
        refine WC.seq ?_
        have hin : i = n := by omega
        have hst := sum_take_le bs i
        have hqrp := hgrp
        have hqok := hgok
        obtain ⟨X, hX0⟩ : ∃ X : List Col, X = [] := ⟨_, rfl⟩
        rw [← hX0] at hqrp hgrp
        have hq0l : g.es.length = O.length + (F.length + X.length) := by have h1 := es_len hgrp; simpa [tag_length] using h1
        have hql := tag_lens hgok hgrp
        have hqwl := hgok.wl
        have hOl : ∀ l ∈ O.map Col.l, l.length ≤ 1099511627776 ∧ i64s l := fun l hl => by obtain ⟨c, hc, rfl⟩ := List.mem_map.1 hl; have := hql c (.inl hc); exact ⟨by omega, this.2⟩
        have hFl : ∀ l ∈ F.map Col.l, l.length ≤ 1099511627776 ∧ i64s l := fun l hl => by obtain ⟨c, hc, rfl⟩ := List.mem_map.1 hl; have := hql c (.inr (.inl hc)); exact ⟨by omega, this.2⟩
        have hXl : ∀ l ∈ X.map Col.l, l.length ≤ 1099511627776 ∧ i64s l := fun l hl => by obtain ⟨c, hc, rfl⟩ := List.mem_map.1 hl; have := hql c (.inr (.inr hc)); exact ⟨by omega, this.2⟩
        have hOp := hO
        have hFp := hF
        refine WC.region ?_
        refine WL.val (OV.move rfl) rfl ?_
        refine WL.val (OV.move rfl) rfl ?_
        refine WL.callTA (ι := RelG) (vs := [ptr g.r, .int .i64 1, .slice oa O.length oc]) (vv := fun _ => .bool true) (pp := fun z => RelOK z ∧ RelLe g z ∧ z.es = g.es) (relA g ++ (TLp b4 oa oc O fa fc F ca cc wd pool Ds)) (AA := fun z => relA z ++ (TLp b4 oa oc O fa fc F ca cc wd pool Ds)) (List.append_nil _).symm (by kernel_rfl) (by rw [show g.r = g.r from rfl]; rfl) rfl (fun w' hw' hH => (just_calls g hgok 1 (TLp b4 oa oc O fa fc F ca cc wd pool Ds) oa oc O (lst_sub (pool := pool) (.tail _ (.head _)) hOp (fun i hi => (.tail _ (.tail _ (.tail _ (.tail _ (List.mem_append_left _ hi))))))) (fun l hl => (hOl l hl).1) (fun l hl => (hOl l hl).2) (by omega) (by rw [hgrp]; exact sel_old O F X) w' hH).mono (fun en w'' ⟨h1, g', h2, h3, h4, h5⟩ => ⟨g', h1, ⟨h2, h3, h4⟩, h5⟩)) ?_
        rintro j1 hpp
        obtain ⟨hj1ok, hj1le, hj1es⟩ : RelOK j1 ∧ RelLe g j1 ∧ j1.es = g.es := hpp
        have hj1rp : rp j1 = tag O 1 ++ (tag F 2 ++ tag X 4) := by rw [← hgrp]; unfold rp; rw [hj1es]
        rw [List.append_nil]
        refine WL.val (OV.move rfl) rfl ?_
        refine WL.known (t := 208) (b := true) rfl (by rfl) ?_
        refine WL.go (b := true) rfl rfl rfl ?_
        refine WL.val (OV.move rfl) rfl ?_
        refine WL.go (b := true) rfl rfl rfl ?_
        refine WL.val (OV.move rfl) rfl ?_
        refine WL.go (b := true) rfl rfl rfl ?_
        refine WL.callTA (ι := RelG) (vs := [ptr j1.r, .int .i64 2, .slice fa F.length fc]) (vv := fun _ => .bool true) (pp := fun z => RelOK z ∧ RelLe j1 z ∧ z.es = j1.es) (relA j1 ++ (TLp b4 oa oc O fa fc F ca cc wd pool Ds)) (AA := fun z => relA z ++ (TLp b4 oa oc O fa fc F ca cc wd pool Ds)) (List.append_nil _).symm (by kernel_rfl) (by rw [hj1le.r]; rfl) rfl (fun w' hw' hH => (just_calls j1 hj1ok 2 (TLp b4 oa oc O fa fc F ca cc wd pool Ds) fa fc F (lst_sub (pool := pool) (.tail _ (.tail _ (.head _))) hFp (fun i hi => (.tail _ (.tail _ (.tail _ (.tail _ (List.mem_append_left _ hi))))))) (fun l hl => (hFl l hl).1) (fun l hl => (hFl l hl).2) (by omega) (by rw [hj1rp]; exact sel_fresh O F X) w' hH).mono (fun en w'' ⟨h1, g', h2, h3, h4, h5⟩ => ⟨g', h1, ⟨h2, h3, h4⟩, h5⟩)) ?_
        rintro j2 hpp
        obtain ⟨hj2ok, hj2le, hj2es⟩ : RelOK j2 ∧ RelLe j1 j2 ∧ j2.es = j1.es := hpp
        have hj2rp : rp j2 = tag O 1 ++ (tag F 2 ++ tag X 4) := by rw [← hj1rp]; unfold rp; rw [hj2es]
        rw [List.append_nil]
        refine WL.val (OV.pickT rfl rfl) rfl ?_
        refine WL.val (OV.move rfl) rfl ?_
        refine WL.known (t := 213) (b := true) rfl (by rfl) ?_
        refine WL.go (b := true) rfl rfl rfl ?_
        refine WL.val (OV.move rfl) rfl ?_
        refine WL.go (b := true) rfl rfl rfl ?_
        refine WL.call0 (v := .int .i64 0) (vs := [ptr j2.r, .int .i64 4]) (by kernel_rfl) (by rw [hj2le.r, hj1le.r]; rfl) rfl (fun w' hw' => (len_calls j2 hj2ok 4 w' hw'.holds).mono (fun e w'' ⟨h1, h2⟩ => ⟨h1.trans (by rw [lenOf_rp, hj2rp, (sel_next O F X).length_eq, hX0]; rfl), h2⟩)) ?_
        refine WL.go (b := true) rfl rfl rfl ?_
        refine WL.val ((OV.eql rfl rfl).cast (u := .bool true) (by simp)) rfl ?_
        refine WL.val (OV.pickT rfl rfl) rfl ?_
        refine WL.val (OV.move rfl) rfl ?_
        refine WL.known (t := 218) (b := true) rfl (by rfl) ?_
        refine WL.go (b := true) rfl rfl rfl ?_
        refine WL.val (OV.move rfl) rfl ?_
        refine WL.go (b := true) rfl rfl rfl ?_
        refine WL.val (OV.move rfl) rfl ?_
        refine WL.go (b := true) rfl rfl rfl ?_
        refine WL.call (ι := Option Addr × Nat) (vs := [.slice fa F.length fc, .slice oa O.length oc]) (vv := fun z => .slice z.1 F.length z.2) (SS := fun _ w' => Sat w (fun _ => False) (fun b => b < w.heap.size) w (relA j2 ++ TLp b4 oa oc O fa fc F ca cc wd pool Ds) w') (by kernel_rfl) rfl rfl (fun w' hw' => (minus_calls (F.map Col.l) (O.map Col.l) fa oa F.length fc O.length oc w' (RLi.of_lst (c := fc) hw' (lst_sub (pool := pool) (List.mem_append_right _ (.tail _ (.tail _ (.head _)))) hFp (fun i hi => List.mem_append_right _ (.tail _ (.tail _ (.tail _ (.tail _ (List.mem_append_left _ hi))))))) (by omega) (fun l hl => (hFl l hl).1) (fun l hl => (hFl l hl).2)) (RLi.of_lst (c := oc) hw' (lst_sub (pool := pool) (List.mem_append_right _ (.tail _ (.head _))) hOp (fun i hi => List.mem_append_right _ (.tail _ (.tail _ (.tail _ (.tail _ (List.mem_append_left _ hi))))))) (by omega) (fun l hl => (hOl l hl).1) (fun l hl => (hOl l hl).2)) (tag_apart hgok hgrp)).mono (fun en w'' ⟨a', c', h1, h2⟩ => ⟨(a', c'), h1, hw'.keep h2⟩)) ?_
        rintro ⟨a221, c221⟩
        refine WL.go (b := true) rfl rfl rfl ?_
        first
        | (refine WL.val (OV.lenSlice rfl T.u29) rfl ?_)
        | (refine WL.val (OV.lenStr rfl T.u29) rfl ?_)
        refine WL.go (b := true) rfl rfl rfl ?_
        refine WL.val (OV.move rfl) rfl ?_
        refine WL.go (b := true) rfl rfl rfl ?_
        first
        | (refine WL.val (OV.lenSlice rfl T.u29) rfl ?_)
        | (refine WL.val (OV.lenStr rfl T.u29) rfl ?_)
        refine WL.go (b := true) rfl rfl rfl ?_
        refine WL.val ((OV.eql rfl rfl).cast (u := .bool true) (by simp)) rfl ?_
        refine WL.val (OV.pickT rfl rfl) rfl ?_
        refine WL.focus (ow' := box1 b4 4 (.bool false) :: (relA j2 ++ ([rowL oa oc O, rowL fa fc F, row 3 1 ca wd cc (ints (colsL wd))] ++ (pool.flatMap colA ++ mkA Ds)))) (perm_cat [relA j2, [box1 b4 4 (.bool false)], [rowL oa oc O, rowL fa fc F, row 3 1 ca wd cc (ints (colsL wd))], pool.flatMap colA, mkA Ds] [1, 0, 2, 3, 4] (by decide) rfl) (WL.store1 (o := 0) rfl rfl rfl T.z4 Nat.zero_lt_one ?_)
        refine WL.nil ?_
        refine WX.next ?_
        refine WC.ret ?_
        refine WX.leave rfl (WR.focus (ow' := mkA Ds ++ (box1 b4 4 (.bool true) :: (relA j2 ++ ([rowL oa oc O, rowL fa fc F, row 3 1 ca wd cc (ints (colsL wd))] ++ pool.flatMap colA)))) (perm_cat [[box1 b4 4 (.bool true)], relA j2, [rowL oa oc O, rowL fa fc F, row 3 1 ca wd cc (ints (colsL wd))], pool.flatMap colA, mkA Ds] [4, 0, 1, 2, 3] (by decide) rfl) (WR.marks Ds (WR.retC1 (v := .bool true) rfl rfl T.u4 rfl (fun w' hw => (cell_at (hw.it _ (.head _)) rfl).1) (fun w' hw => ⟨rfl, hw.fr⟩))))
    · try simp only [decide_eq_true_eq, decide_eq_false_iff_not, Bool.not_eq_true', Bool.not_eq_false'] at g55
      refine WL.skip (b := false) rfl rfl rfl rfl ?_
      refine WL.skip (b := false) rfl rfl rfl rfl ?_
      refine WL.val (OV.pickF rfl rfl) rfl ?_
      refine WL.nil ?_
      refine WX.next ?_
      refine WC.condF rfl ?_
      refine WC.exit ?_
      refine WX.then_exit ?_
      refine WX.then_exit ?_
      refine WX.block_hit ?_
      refine WX.next ?_
      refine WC.seq ?_
      have hin : i = n := by omega
      have hst := sum_take_le bs i
      have hqrp := hgrp
      have hqok := hgok
      obtain ⟨X, hX0⟩ : ∃ X : List Col, X = [] := ⟨_, rfl⟩
      rw [← hX0] at hqrp hgrp
      have hq0l : g.es.length = O.length + (F.length + X.length) := by have h1 := es_len hgrp; simpa [tag_length] using h1
      have hql := tag_lens hgok hgrp
      have hqwl := hgok.wl
      have hOl : ∀ l ∈ O.map Col.l, l.length ≤ 1099511627776 ∧ i64s l := fun l hl => by obtain ⟨c, hc, rfl⟩ := List.mem_map.1 hl; have := hql c (.inl hc); exact ⟨by omega, this.2⟩
      have hFl : ∀ l ∈ F.map Col.l, l.length ≤ 1099511627776 ∧ i64s l := fun l hl => by obtain ⟨c, hc, rfl⟩ := List.mem_map.1 hl; have := hql c (.inr (.inl hc)); exact ⟨by omega, this.2⟩
      have hXl : ∀ l ∈ X.map Col.l, l.length ≤ 1099511627776 ∧ i64s l := fun l hl => by obtain ⟨c, hc, rfl⟩ := List.mem_map.1 hl; have := hql c (.inr (.inr hc)); exact ⟨by omega, this.2⟩
      have hOp := hO
      have hFp := hF
      refine WC.region ?_
      refine WL.val (OV.move rfl) rfl ?_
      refine WL.val (OV.move rfl) rfl ?_
      refine WL.callTA (ι := RelG) (vs := [ptr g.r, .int .i64 1, .slice oa O.length oc]) (vv := fun _ => .bool true) (pp := fun z => RelOK z ∧ RelLe g z ∧ z.es = g.es) (relA g ++ (TLp b4 oa oc O fa fc F ca cc wd pool Ds)) (AA := fun z => relA z ++ (TLp b4 oa oc O fa fc F ca cc wd pool Ds)) (List.append_nil _).symm (by kernel_rfl) (by rw [show g.r = g.r from rfl]; rfl) rfl (fun w' hw' hH => (just_calls g hgok 1 (TLp b4 oa oc O fa fc F ca cc wd pool Ds) oa oc O (lst_sub (pool := pool) (.tail _ (.head _)) hOp (fun i hi => (.tail _ (.tail _ (.tail _ (.tail _ (List.mem_append_left _ hi))))))) (fun l hl => (hOl l hl).1) (fun l hl => (hOl l hl).2) (by omega) (by rw [hgrp]; exact sel_old O F X) w' hH).mono (fun en w'' ⟨h1, g', h2, h3, h4, h5⟩ => ⟨g', h1, ⟨h2, h3, h4⟩, h5⟩)) ?_
      rintro j1 hpp
      obtain ⟨hj1ok, hj1le, hj1es⟩ : RelOK j1 ∧ RelLe g j1 ∧ j1.es = g.es := hpp
      have hj1rp : rp j1 = tag O 1 ++ (tag F 2 ++ tag X 4) := by rw [← hgrp]; unfold rp; rw [hj1es]
      rw [List.append_nil]
      refine WL.val (OV.move rfl) rfl ?_
      refine WL.known (t := 208) (b := true) rfl (by rfl) ?_
      refine WL.go (b := true) rfl rfl rfl ?_
      refine WL.val (OV.move rfl) rfl ?_
      refine WL.go (b := true) rfl rfl rfl ?_
      refine WL.val (OV.move rfl) rfl ?_
      refine WL.go (b := true) rfl rfl rfl ?_
      refine WL.callTA (ι := RelG) (vs := [ptr j1.r, .int .i64 2, .slice fa F.length fc]) (vv := fun _ => .bool true) (pp := fun z => RelOK z ∧ RelLe j1 z ∧ z.es = j1.es) (relA j1 ++ (TLp b4 oa oc O fa fc F ca cc wd pool Ds)) (AA := fun z => relA z ++ (TLp b4 oa oc O fa fc F ca cc wd pool Ds)) (List.append_nil _).symm (by kernel_rfl) (by rw [hj1le.r]; rfl) rfl (fun w' hw' hH => (just_calls j1 hj1ok 2 (TLp b4 oa oc O fa fc F ca cc wd pool Ds) fa fc F (lst_sub (pool := pool) (.tail _ (.tail _ (.head _))) hFp (fun i hi => (.tail _ (.tail _ (.tail _ (.tail _ (List.mem_append_left _ hi))))))) (fun l hl => (hFl l hl).1) (fun l hl => (hFl l hl).2) (by omega) (by rw [hj1rp]; exact sel_fresh O F X) w' hH).mono (fun en w'' ⟨h1, g', h2, h3, h4, h5⟩ => ⟨g', h1, ⟨h2, h3, h4⟩, h5⟩)) ?_
      rintro j2 hpp
      obtain ⟨hj2ok, hj2le, hj2es⟩ : RelOK j2 ∧ RelLe j1 j2 ∧ j2.es = j1.es := hpp
      have hj2rp : rp j2 = tag O 1 ++ (tag F 2 ++ tag X 4) := by rw [← hj1rp]; unfold rp; rw [hj2es]
      rw [List.append_nil]
      refine WL.val (OV.pickT rfl rfl) rfl ?_
      refine WL.val (OV.move rfl) rfl ?_
      refine WL.known (t := 213) (b := true) rfl (by rfl) ?_
      refine WL.go (b := true) rfl rfl rfl ?_
      refine WL.val (OV.move rfl) rfl ?_
      refine WL.go (b := true) rfl rfl rfl ?_
      refine WL.call0 (v := .int .i64 0) (vs := [ptr j2.r, .int .i64 4]) (by kernel_rfl) (by rw [hj2le.r, hj1le.r]; rfl) rfl (fun w' hw' => (len_calls j2 hj2ok 4 w' hw'.holds).mono (fun e w'' ⟨h1, h2⟩ => ⟨h1.trans (by rw [lenOf_rp, hj2rp, (sel_next O F X).length_eq, hX0]; rfl), h2⟩)) ?_
      refine WL.go (b := true) rfl rfl rfl ?_
      refine WL.val ((OV.eql rfl rfl).cast (u := .bool true) (by simp)) rfl ?_
      refine WL.val (OV.pickT rfl rfl) rfl ?_
      refine WL.val (OV.move rfl) rfl ?_
      refine WL.known (t := 218) (b := true) rfl (by rfl) ?_
      refine WL.go (b := true) rfl rfl rfl ?_
      refine WL.val (OV.move rfl) rfl ?_
      refine WL.go (b := true) rfl rfl rfl ?_
      refine WL.val (OV.move rfl) rfl ?_
      refine WL.go (b := true) rfl rfl rfl ?_
      refine WL.call (ι := Option Addr × Nat) (vs := [.slice fa F.length fc, .slice oa O.length oc]) (vv := fun z => .slice z.1 F.length z.2) (SS := fun _ w' => Sat w (fun _ => False) (fun b => b < w.heap.size) w (relA j2 ++ TLp b4 oa oc O fa fc F ca cc wd pool Ds) w') (by kernel_rfl) rfl rfl (fun w' hw' => (minus_calls (F.map Col.l) (O.map Col.l) fa oa F.length fc O.length oc w' (RLi.of_lst (c := fc) hw' (lst_sub (pool := pool) (List.mem_append_right _ (.tail _ (.tail _ (.head _)))) hFp (fun i hi => List.mem_append_right _ (.tail _ (.tail _ (.tail _ (.tail _ (List.mem_append_left _ hi))))))) (by omega) (fun l hl => (hFl l hl).1) (fun l hl => (hFl l hl).2)) (RLi.of_lst (c := oc) hw' (lst_sub (pool := pool) (List.mem_append_right _ (.tail _ (.head _))) hOp (fun i hi => List.mem_append_right _ (.tail _ (.tail _ (.tail _ (.tail _ (List.mem_append_left _ hi))))))) (by omega) (fun l hl => (hOl l hl).1) (fun l hl => (hOl l hl).2)) (tag_apart hgok hgrp)).mono (fun en w'' ⟨a', c', h1, h2⟩ => ⟨(a', c'), h1, hw'.keep h2⟩)) ?_
      rintro ⟨a221, c221⟩
      refine WL.go (b := true) rfl rfl rfl ?_
      first
      | (refine WL.val (OV.lenSlice rfl T.u29) rfl ?_)
      | (refine WL.val (OV.lenStr rfl T.u29) rfl ?_)
      refine WL.go (b := true) rfl rfl rfl ?_
      refine WL.val (OV.move rfl) rfl ?_
      refine WL.go (b := true) rfl rfl rfl ?_
      first
      | (refine WL.val (OV.lenSlice rfl T.u29) rfl ?_)
      | (refine WL.val (OV.lenStr rfl T.u29) rfl ?_)
      refine WL.go (b := true) rfl rfl rfl ?_
      refine WL.val ((OV.eql rfl rfl).cast (u := .bool true) (by simp)) rfl ?_
      refine WL.val (OV.pickT rfl rfl) rfl ?_
      refine WL.focus (ow' := box1 b4 4 (.bool false) :: (relA j2 ++ ([rowL oa oc O, rowL fa fc F, row 3 1 ca wd cc (ints (colsL wd))] ++ (pool.flatMap colA ++ mkA Ds)))) (perm_cat [relA j2, [box1 b4 4 (.bool false)], [rowL oa oc O, rowL fa fc F, row 3 1 ca wd cc (ints (colsL wd))], pool.flatMap colA, mkA Ds] [1, 0, 2, 3, 4] (by decide) rfl) (WL.store1 (o := 0) rfl rfl rfl T.z4 Nat.zero_lt_one ?_)
      refine WL.nil ?_
      refine WX.next ?_
      refine WC.ret ?_
      refine WX.leave rfl (WR.focus (ow' := mkA Ds ++ (box1 b4 4 (.bool true) :: (relA j2 ++ ([rowL oa oc O, rowL fa fc F, row 3 1 ca wd cc (ints (colsL wd))] ++ pool.flatMap colA)))) (perm_cat [[box1 b4 4 (.bool true)], relA j2, [rowL oa oc O, rowL fa fc F, row 3 1 ca wd cc (ints (colsL wd))], pool.flatMap colA, mkA Ds] [4, 0, 1, 2, 3] (by decide) rfl) (WR.marks Ds (WR.retC1 (v := .bool true) rfl rfl T.u4 rfl (fun w' hw => (cell_at (hw.it _ (.head _)) rfl).1) (fun w' hw => ⟨rfl, hw.fr⟩))))

end Go.Proofs.YtijplknkpkmblaaDoor
