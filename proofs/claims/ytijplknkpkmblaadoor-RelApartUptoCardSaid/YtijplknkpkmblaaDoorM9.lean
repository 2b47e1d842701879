/- Contracts of functions of the program: what each returns and leaves in memory. Printed by gen.py and walk.py. -/
import Derived.Test.YtijplknkpkmblaaDoorM8
namespace Go.Proofs.YtijplknkpkmblaaDoor
open Go Go.Hw
set_option linter.unusedSimpArgs false
set_option linter.unusedVariables false
set_option maxRecDepth 10000 in
theorem given_calls (g : RelG) (ok : RelOK g) (w : World) (hA : Holds (relA g) w) :
  Calls Tryd.prog 21 #[ptr g.r] w fun e w' => ∃ g' la lc ys, e = .returned (.slice la ys.length lc) ∧ ys.map Col.l = selR (rp g) 7 [] [] ∧ RelOK g' ∧ RelLe g g' ∧ g'.es = g.es ∧ Turns (relA g) (relA g' ++ lstA la lc ys) w w' := by
  refine enterA hA (args := [ptr g.r]) Tryd.func21 rfl Tryd.ntmps21 rfl rfl ?_
  refine WC.seq ?_
  refine WC.region ?_
  refine WL.val (OV.assign rfl) rfl ?_
  refine WL.nil ?_
  refine WX.next ?_
  refine WC.seq ?_
  refine WC.region ?_
  refine WL.alloc T.zr29 rfl ?_
  intro b3
  refine WL.nil ?_
  refine WX.next ?_
  refine WC.seq ?_
  refine WC.region ?_
  refine WL.val (OV.move rfl) rfl ?_
  refine WL.focus (ow' := relA g ++ [box1 b3 29 (.slice none 0 0)]) (List.perm_append_comm (l₂ := [_])) (WL.callTA (ι := FB) (vv := fun F => F.fn) (pp := fun F => F.r = g.r ∧ F.parts = 7 ∧ QR g.width [] [] F.ls F.ks F.b ∧ RelOK (colG g F.col)) (relA g) (AA := fun F => relA (colG g F.col) ++ boxA F) rfl (by kernel_rfl) rfl rfl (fun w' hw' hH => (find_calls g ok 7 [] [] none 0 0 none 0 0 i64s_nil i64s_nil (by omega) (by omega) w' (RI.nil _) (RI.nil _) (fun b hb => by cases hb) (fun b hb => by cases hb) hH).mono (fun en w'' ⟨F, h1, h2, h3, h4, h5, h6⟩ => ⟨F, h1, ⟨h2, h3, h4, h5⟩, h6⟩)) ?_)
  rintro F ⟨hFr, hFp, hq, ok1⟩
  refine WL.val (OV.assign rfl) rfl ?_
  refine WL.nil ?_
  refine WX.next ?_
  refine WC.seq ?_
  refine WC.seq ?_
  refine WC.region ?_
  refine WL.val (OV.move rfl) rfl ?_
  refine WL.val (OV.eqlFN T.u32 rfl rfl) rfl ?_
  refine WL.nil ?_
  refine WX.next ?_
  refine WC.condF rfl ?_
  refine WC.skip ?_
  refine WX.next ?_
  refine WC.seq ?_
  refine WC.seq ?_
  refine WC.region ?_
  refine WL.val (OV.move rfl) rfl ?_
  refine WL.nil ?_
  refine WX.next ?_
  refine WC.block ?_
  refine WC.weak (S' := Sat w (DD (relA g)) (fun b => b < w.heap.size ∧ ¬ DD (relA g) b) w ((relA (colG g F.col) ++ boxA F) ++ (CCr b3 (none, 0, []) ++ []))) (fun w' hw => (hw.rowNil 23 1).perm (perm_cat [[row 23 1 none 0 0 []], (relA (colG g F.col) ++ boxA F), [box1 b3 29 (.slice none 0 0)]] [1, 2, 0] (by decide) rfl)) ?_
  refine WC.rangeFunc (RA := fun q => relA q ++ boxA F) (CC := CCr b3) (EI := EIr) (arg := argr) (xs := (selR (rp g) F.parts [] [])) (g0 := (colG g F.col)) (y0 := (none, 0, [])) (R01 := fun g1 => RelOK g1 ∧ RelLe (colG g F.col) g1 ∧ g1.es = ((colG g F.col)).es) (Mono := fun g1 => RelLe (colG g F.col) g1) (gf := 30) (caps := F.caps) (ow := []) rfl rfl (by kernel_rfl) rfl (fun w' _ => find1_iter F (colG g F.col) ok1 [] [] hq hFr (List.mem_append_right _ (.head _)) w')
    (fun k q y => RelOK q ∧ RelLe (colG g F.col) q ∧ q.es = g.es ∧ y.2.2.map Col.l = (selR (rp g) F.parts [] []).take k) (fun _ _ _ _ => False) (fun q hq => ⟨hq.1, hq.2.1, hq.2.2, by simp⟩) (fun k q y h => h.2.1) ?_ ?_ ?_
  · rintro l lr k q ⟨la, lc, ys⟩ d W a hxs hJ hS
    obtain ⟨okq, leq, hqe, hys⟩ : RelOK q ∧ RelLe (colG g F.col) q ∧ q.es = g.es ∧ ys.map Col.l = (selR (rp g) F.parts [] []).take k := hJ
    have hyl : ys.length ≤ 1099511627776 := by
      have h1 := congrArg List.length hys
      rw [List.length_map, List.length_take] at h1
      have h2 := selR_len (rp g) F.parts [] []
      rw [rp_len] at h2
      have := ok.el
      omega
    refine WC.region ?_
    refine WL.val (OV.assign rfl) rfl ?_
    refine WL.nil ?_
    refine WX.begin ?_
    refine WC.focus (ow' := box1 b3 29 (.slice la ys.length lc) :: row 23 1 la ys.length lc (ys.map encC) :: row 3 1 d.1 a.length d.2 (ints a) :: own l (lr.ob .busy none) :: (ys.flatMap colA ++ (relA q ++ boxA F))) (perm_cat [[own l (lr.ob .busy none)], [row 3 1 d.1 a.length d.2 (ints a)], (relA q ++ boxA F), [box1 b3 29 (.slice la ys.length lc), row 23 1 la ys.length lc (ys.map encC)], ys.flatMap colA] [3, 1, 0, 4, 2] (by decide) rfl) ?_
    refine WC.block ?_
    refine WC.region ?_
    first
    | (refine WL.val (OV.load1 rfl T.u29 rfl (fun _ hw => cell_own hw (.head _) rfl)) rfl ?_)
    | (refine WL.val (OV.load1 rfl T.u29 rfl (fun _ hw => cell_own hw (.tail _ (.head _)) rfl)) rfl ?_)
    | (refine WL.val (OV.load1 rfl T.u29 rfl (fun _ hw => cell_own hw (.tail _ (.tail _ (.head _))) rfl)) rfl ?_)
    | (refine WL.val (OV.load1 rfl T.u29 rfl (fun _ hw => cell_own hw (.tail _ (.tail _ (.tail _ (.head _)))) rfl)) rfl ?_)
    refine WL.val (OV.move rfl) rfl ?_
    refine WL.buildSlice1 T.u29 T.z23 T.zr23 rfl rfl rfl ?_
    intro b14
    refine WL.focus perm2 (WL.append (news := [encC ⟨d.1, d.2, a⟩]) rfl rfl T.apR (fun _ _ => own_src (.tail _ (.head _)) rfl) (encC_one [⟨d.1, d.2, a⟩]) ⟨by omega, by unfold maxLen; omega⟩ rfl ?_)
    intro a15 c15
    refine WL.focus perm2 (WL.store1 (o := 0) rfl rfl rfl T.z29 Nat.zero_lt_one ?_)
    refine WL.nil ?_
    refine WX.block_normal ?_
    refine WX.focus (ow' := own l (lr.ob .busy none) :: ((relA q ++ boxA F) ++ (box1 b3 29 (.slice a15 (ys.length + 1) c15) :: row 23 1 a15 (ys.length + 1) c15 (ys.map encC ++ [encC ⟨d.1, d.2, a⟩]) :: (ys.flatMap colA ++ [row 3 1 d.1 a.length d.2 (ints a), own b14 (.cells [encC ⟨d.1, d.2, a⟩].toArray 23 (0, 0))])))) (perm_cat [[box1 b3 29 (.slice a15 (ys.length + 1) c15), row 23 1 a15 (ys.length + 1) c15 (ys.map encC ++ [encC ⟨d.1, d.2, a⟩])], [own b14 (.cells [encC ⟨d.1, d.2, a⟩].toArray 23 (0, 0))], [row 3 1 d.1 a.length d.2 (ints a)], [own l (lr.ob .busy none)], ys.flatMap colA, (relA q ++ boxA F)] [3, 5, 0, 4, 2, 1] (by decide) rfl) (WX.roundEnd (fun w' hw => ⟨q, (a15, c15, ys ++ [⟨d.1, d.2, a⟩]), lr.ob .ready none, fun _ => ⟨⟨okq, leq, hqe, ?_⟩, rfl⟩, fun h => (by cases h), ?_⟩))
    · show (ys ++ [_]).map Col.l = (selR (rp g) F.parts [] []).take (k + 1)
      rw [List.map_append, hys, List.take_add_one, hxs]
      rfl
    · have e1 : CCr b3 (a15, c15, ys ++ [⟨d.1, d.2, a⟩]) = box1 b3 29 (.slice a15 (ys.length + 1) c15) :: row 23 1 a15 (ys.length + 1) c15 (ys.map encC ++ [encC ⟨d.1, d.2, a⟩]) :: (ys.flatMap colA ++ [row 3 1 d.1 a.length d.2 (ints a)]) := by
        unfold CCr lstA
        rw [flat_snoc, List.map_append, List.length_append]
        rfl
      show Turns _ (own l (lr.ob .ready none) :: ((relA q ++ boxA F) ++ CCr b3 (a15, c15, ys ++ [⟨d.1, d.2, a⟩]))) _ _
      rw [e1]
      exact Hw.Sat.turnedL (B := [own b14 (.cells [encC ⟨d.1, d.2, a⟩].toArray 23 (0, 0))]) (hw.perm (List.Perm.of_eq (by simp)))
  · rintro D g2 ⟨la, lc, ys⟩ hJ
    obtain ⟨ok2, le2, he2, hys⟩ : RelOK g2 ∧ RelLe (colG g F.col) g2 ∧ g2.es = g.es ∧ ys.map Col.l = (selR (rp g) F.parts [] []).take (selR (rp g) F.parts [] []).length := hJ
    refine WX.block_normal ?_
    refine WX.next ?_
    refine WC.seq ?_
    refine WC.region ?_
    refine WL.val (OV.load1 (v := .slice la ys.length lc) rfl T.u29 rfl (fun _ hw => cell_own hw (.tail _ (List.mem_append_right _ (.head _))) rfl)) rfl ?_
    refine WL.val (OV.assign rfl) rfl ?_
    refine WL.nil ?_
    refine WX.next ?_
    refine WC.ret ?_
    refine WX.leave rfl (WR.mark (WR.ret1 rfl rfl (fun w' hw => ⟨g2, la, lc, ys, rfl, ?_, ok2, (colG_le g F.col).trans le2, he2, ?_⟩)))
    · rw [hys, List.take_length, hFp]
    · have h1 := hw.drop
      exact Hw.Sat.turnedL (B := boxA F ++ [box1 b3 29 (.slice la ys.length lc)]) (h1.perm ((List.Perm.of_eq (by rw [List.append_assoc]; rfl)).trans ((perm_cat [relA g2, boxA F, [box1 b3 29 (.slice la ys.length lc)], lstA la lc ys] [0, 3, 1, 2] (by decide) rfl).trans (List.Perm.of_eq (by simp [cat, CCr])))))
  · intro D c k g2 y2 hJ
    exact hJ.elim

/-! ### Rows that are lent -/
structure KE where
  la : Option Addr
  lc : Nat
  ga : Option Addr
  gc : Nat
  n : Nat
  M : Int
  sh : Bool
def rep (n : Nat) (M : Int) : List Int := List.replicate n M
def keA (k : KE) : List Hw.Item := row 3 1 k.ga (k.n + 1) k.gc (ints (rep (k.n + 1) k.M)) :: (if k.sh then [] else [row 3 1 k.la k.n k.lc (ints (rep k.n k.M))])
def keV (k : KE) : List Value := [.slice k.la k.n k.lc, .slice k.ga (k.n + 1) k.gc, .int .i64 k.M]
def KE.good (k : KE) : Prop := (k.sh = true → k.ga = k.la) ∧ k.n ≤ 5
def kvals (ks : List KE) : List Value := ks.flatMap keV
theorem kvals_length (ks : List KE) : (kvals ks).length = ks.length * 3 := by
  induction ks with
  | nil => rfl
  | cons k ks ih =>
    have : kvals (k :: ks) = keV k ++ kvals ks := rfl
    rw [this, List.length_append, ih, List.length_cons]
    show 3 + _ = _
    omega
theorem kvals_append (a b : List KE) : kvals (a ++ b) = kvals a ++ kvals b := by simp [kvals]
theorem kvals_get {ks : List KE} {i : Nat} {k : KE} (h : ks[i]? = some k) {j : Nat} {v : Value} (hv : (keV k)[j]? = some v) : (kvals ks)[i * 3 + j]? = some v := by
  induction ks generalizing i with
  | nil => cases h
  | cons x ks ih =>
    have e : kvals (x :: ks) = keV x ++ kvals ks := rfl
    rw [e]
    cases i with
    | zero =>
      simp only [List.getElem?_cons_zero, Option.some.injEq] at h
      subst h
      have hj := (List.getElem?_eq_some_iff.1 hv).1
      rw [List.getElem?_append_left (by omega), Nat.zero_mul, Nat.zero_add]
      exact hv
    | succ i =>
      simp only [List.getElem?_cons_succ] at h
      have hl : (keV x).length = 3 := rfl
      rw [List.getElem?_append_right (by omega), hl, show (i + 1) * 3 + j - 3 = i * 3 + j by omega]
      exact ih h
theorem kvals_one (ks : List KE) : ∀ u ∈ kvals ks, u.oneCell' = true := by
  intro u hu
  obtain ⟨k, _, hk⟩ := List.mem_flatMap.1 hu
  simp only [keV, List.mem_cons, List.not_mem_nil, or_false] at hk
  rcases hk with rfl | rfl | rfl <;> rfl
theorem keV_one (k : KE) : ∀ u ∈ keV k, u.oneCell' = true := by
  intro u hu
  simp only [keV, List.mem_cons, List.not_mem_nil, or_false] at hu
  rcases hu with rfl | rfl | rfl <;> rfl
theorem rep_snoc (n : Nat) (M : Int) : rep n M ++ [M] = rep (n + 1) M := by
  rw [rep, rep, List.replicate_succ']
theorem rep_length (n : Nat) (M : Int) : (rep n M).length = n := by simp [rep]
theorem rep_get {n i : Nat} {M : Int} (h : i < n) : (rep n M)[i]? = some M := by simp [rep, h]
def mkm (m i : Nat) : Int := -1000 * (m : Int) - (i : Int) - 1
/-- Marked, up to the k-th number of the i-th row. -/
structure Mk (m : Nat) (ys zs : List Col) (i k : Nat) : Prop where
  len : zs.length = ys.length
  enc : zs.map encC = ys.map encC
  same : ∀ (j : Nat) (y z : Col), ys[j]? = some y → zs[j]? = some z → z.a = y.a ∧ z.c = y.c ∧ z.l.length = y.l.length
  done : ∀ (j : Nat) (z : Col), j < i → zs[j]? = some z → z.l = rep z.l.length (mkm m j)
  now : ∀ z, zs[i]? = some z → k ≤ z.l.length ∧ z.l.take k = rep k (mkm m i)
theorem Mk.start (m : Nat) (ys : List Col) : Mk m ys ys 0 0 :=
  ⟨rfl, rfl, fun j y z h1 h2 => by rw [h1] at h2; cases h2; exact ⟨rfl, rfl, rfl⟩, fun j z hj => by omega, fun z hz => ⟨by omega, by simp [rep]⟩⟩
theorem Mk.row {m : Nat} {ys zs : List Col} {i k : Nat} (h : Mk m ys zs i k) {z : Col} (hz : zs[i]? = some z) (hk : z.l.length ≤ k) : Mk m ys zs (i + 1) 0 := by
  refine ⟨h.len, h.enc, h.same, fun j x hj hx => ?_, fun x hx => ⟨by omega, by simp [rep]⟩⟩
  by_cases hji : j = i
  · subst hji
    obtain rfl : z = x := Option.some.inj (hz.symm.trans hx)
    have h1 := h.now z hz
    have h2 := h1.2
    rw [List.take_of_length_le (by omega)] at h2
    have h3 : z.l.length = k := by omega
    rw [h3]; exact h2
  · exact h.done j x (by omega) hx
theorem Mk.cell {m : Nat} {ys z1 z2 : List Col} {z : Col} {k : Nat} (h : Mk m ys (z1 ++ z :: z2) z1.length k) (hk : k < z.l.length) : Mk m ys (z1 ++ { z with l := z.l.set k (mkm m z1.length) } :: z2) z1.length (k + 1) := by
  have hget : ∀ (x : Col) (j : Nat), j ≠ z1.length → (z1 ++ x :: z2)[j]? = (z1 ++ z :: z2)[j]? := fun x j hj => by
    rcases Nat.lt_or_ge j z1.length with h1 | h1
    · rw [List.getElem?_append_left h1, List.getElem?_append_left h1]
    · rw [List.getElem?_append_right h1, List.getElem?_append_right h1]
      obtain ⟨u, hu⟩ : ∃ u, j - z1.length = u + 1 := ⟨j - z1.length - 1, by omega⟩
      rw [hu]; rfl
  have hat : ∀ x : Col, (z1 ++ x :: z2)[z1.length]? = some x := fun x => by rw [List.getElem?_append_right (Nat.le_refl _), Nat.sub_self]; rfl
  refine ⟨by rw [← h.len]; simp, by rw [← h.enc]; simp [encC], fun j y x hy hx => ?_, fun j x hj hx => ?_, fun x hx => ?_⟩
  · by_cases hj : j = z1.length
    · subst hj
      rw [hat] at hx
      have h2 := h.same _ y z hy (hat z)
      cases hx
      exact ⟨h2.1, h2.2.1, by simpa using h2.2.2⟩
    · rw [hget _ j hj] at hx
      exact h.same j y x hy hx
  · rw [hget _ j (by omega)] at hx
    exact h.done j x hj hx
  · rw [hat] at hx
    cases hx
    have h2 := (h.now z (hat z)).2
    refine ⟨by simp; omega, ?_⟩
    rw [← rep_snoc, ← h2]
    show (z.l.set k _).take (k + 1) = _
    rw [List.take_add_one, List.take_set_of_le (by omega)]
    simp [hk]
theorem T.apK : appB Tryd.prog 48 91 3 56 = true := by kernel_rfl
theorem drop_cons {zs : List Col} {i : Nat} {z : Col} (h : zs[i]? = some z) : zs.drop i = z :: zs.drop (i + 1) := by
  obtain ⟨hi, rfl⟩ := List.getElem?_eq_some_iff.1 h
  exact List.drop_eq_getElem_cons hi
theorem ints_set (l : List Int) (k : Nat) (M : Int) : (ints l).set k (.int .i64 M) = ints (l.set k M) := by simp [ints, List.map_set]

set_option maxRecDepth 10000 in
theorem lend_calls (m : Nat) (hm : m ≤ 100) (la : Option Addr) (lc : Nat) (ys : List Col) (hyl : ys.length ≤ 1099511627776) (hyn : ∀ y ∈ ys, y.l.length ≤ 5) (w : World) (hA : Holds (lstA la lc ys) w) :
  Calls Tryd.prog 22 #[.slice la ys.length lc, .int .i64 (m : Int)] w fun e w' => ∃ ka kc ks, e = .returned (.slice ka ks.length kc) ∧ (∀ k ∈ ks, KE.good k) ∧ ks.length = ys.length ∧ Turns (lstA la lc ys) (row 23 1 la ys.length lc (ys.map encC) :: row 91 3 ka ks.length kc (kvals ks) :: ks.flatMap keA) w w' := by
  refine enterA hA (args := [.slice la ys.length lc, .int .i64 (m : Int)]) Tryd.func22 rfl Tryd.ntmps22 rfl rfl ?_
  refine WC.seq ?_
  refine WC.region ?_
  refine WL.val (OV.assign rfl) rfl ?_
  refine WL.nil ?_
  refine WX.next ?_
  refine WC.seq ?_
  refine WC.seq ?_
  refine WC.region ?_
  refine WL.val (OV.assign rfl) rfl ?_
  refine WL.nil ?_
  refine WX.next ?_
  refine WC.block ?_
  refine WC.weak (S' := fun w' => ((0 < ys.length → ∃ q, la = some ⟨q, 0, none⟩) ∧ ∀ y ∈ ys, 0 < y.l.length → ∃ q, y.a = some ⟨q, 0, none⟩) ∧ Sat w (DD (lstA la lc ys)) (fun b => b < w.heap.size ∧ ¬ DD (lstA la lc ys) b) w (lstA la lc ys) w') (fun w' hw => ⟨⟨fun hp => row_addr (hw.it _ (.head _)) hp, fun y hy hp => row_addr (hw.it _ (colmem (la := la) (lc := lc) hy)) hp⟩, hw⟩) ?_
  refine WC.pure (fun hlya => ?_)
  obtain ⟨hla, hya⟩ := hlya
  refine WC.loop2 (fun (i : Nat) (zs : List Col) => [(0, .slice la ys.length lc), (1, .int .i64 (m : Int)), (5, .int .i64 (i : Int))])
      (fun i zs w' => (i ≤ ys.length ∧ Mk m ys zs i 0) ∧ Sat w (DD (lstA la lc ys)) (fun b => b < w.heap.size ∧ ¬ DD (lstA la lc ys) b) w (row 23 1 la ys.length lc (ys.map encC) :: zs.flatMap colA) w')
      (fun i _ => ys.length - i) 0 ys ⟨rfl, rfl, rfl, trivial⟩ (fun w' hw => ⟨⟨by omega, Mk.start m ys⟩, hw⟩) ?_
  intro i zs0
  refine WC.pure (fun hi => ?_)
  obtain ⟨hi, hmk0⟩ := hi
  refine WC.seq ?_
  refine WC.seq ?_
  refine WC.region ?_
  refine WL.val (OV.move rfl) rfl ?_
  refine WL.val (OV.move rfl) rfl ?_
  first
  | (refine WL.val (OV.lenSlice rfl T.u29) rfl ?_)
  | (refine WL.val (OV.lenStr rfl T.u29) rfl ?_)
  refine WL.val (OV.lss rfl rfl) rfl ?_
  refine WL.nil ?_
  refine WX.next ?_
  refine WC.cond rfl (fun c12 => ?_) (fun c12 => ?_)
  · try simp only [decide_eq_true_eq, decide_eq_false_iff_not, Bool.not_eq_true', Bool.not_eq_false'] at c12
    refine WC.skip ?_
    refine WX.next ?_
    refine WC.seq ?_
    refine WC.block ?_
    refine WC.seq ?_
    refine WC.region ?_
    refine WL.val (OV.assign rfl) rfl ?_
    refine WL.nil ?_
    refine WX.next ?_
    refine WC.block ?_
    refine WC.loop2 (fun (k : Nat) (zs : List Col) => [(0, .slice la ys.length lc), (1, .int .i64 (m : Int)), (5, .int .i64 (i : Int)), (6, .int .i64 (k : Int))])
        (fun k zs w' => Mk m ys zs i k ∧ Sat w (DD (lstA la lc ys)) (fun b => b < w.heap.size ∧ ¬ DD (lstA la lc ys) b) w (row 23 1 la ys.length lc (ys.map encC) :: zs.flatMap colA) w')
        (fun k _ => 5 - k) 0 zs0 ⟨rfl, rfl, rfl, rfl, trivial⟩ (fun w' hw => ⟨hmk0, hw⟩) ?_
    intro k zs
    refine WC.pure (fun hmk => ?_)
    refine WC.seq ?_
    refine WC.seq ?_
    refine WC.region ?_
    refine WL.val (OV.move rfl) rfl ?_
    refine WL.val (OV.move rfl) rfl ?_
    refine WL.val (OV.move rfl) rfl ?_
    have hzl := hmk.len
    obtain ⟨z, hz⟩ : ∃ z, zs[i]? = some z := ⟨_, List.getElem?_eq_getElem (by omega)⟩
    obtain ⟨y, hy⟩ : ∃ y, ys[i]? = some y := ⟨_, List.getElem?_eq_getElem (by omega)⟩
    have hsm := hmk.same i y z hy hz
    have hzn : z.l.length ≤ 5 := by have := hyn y (List.mem_of_getElem? hy); omega
    have henc : (ys.map encC)[i]? = some (encC z) := by rw [← hmk.enc, List.getElem?_map, hz]; rfl
    obtain ⟨q1, hq1⟩ := hla (by omega)
    refine WL.val (OV.indexSliceA (a := ⟨q1, 0, none⟩) (i := i) (show _ = some (Value.slice (some ⟨q1, 0, none⟩) ys.length lc) by rw [← hq1]; rfl) rfl T.u29 T.z23 (by omega)) rfl ?_
    refine WL.val (OV.load1 (v := encC z) rfl T.u23 rfl (fun _ hw => row_cellsE hw hq1 (.head _) i _ henc)) rfl ?_
    first
    | (refine WL.val (OV.lenSlice rfl T.u23) rfl ?_)
    | (refine WL.val (OV.lenStr rfl T.u23) rfl ?_)
    refine WL.val (OV.lss rfl rfl) rfl ?_
    refine WL.nil ?_
    refine WX.next ?_
    refine WC.cond rfl (fun c21 => ?_) (fun c21 => ?_)
    · try simp only [decide_eq_true_eq, decide_eq_false_iff_not, Bool.not_eq_true', Bool.not_eq_false'] at c21
      refine WC.skip ?_
      refine WX.next ?_
      refine WC.seq ?_
      refine WC.block ?_
      refine WC.region ?_
      refine WL.val (OV.move rfl) rfl ?_
      refine WL.val (OV.move rfl) rfl ?_
      refine WL.val (OV.indexSliceA (a := ⟨q1, 0, none⟩) (i := i) (show _ = some (Value.slice (some ⟨q1, 0, none⟩) ys.length lc) by rw [← hq1]; rfl) rfl T.u29 T.z23 (by omega)) rfl ?_
      refine WL.val (OV.load1 (v := encC z) rfl T.u23 rfl (fun _ hw => row_cellsE hw hq1 (.head _) i _ henc)) rfl ?_
      refine WL.val (OV.move rfl) rfl ?_
      refine WL.val (OV.move rfl) rfl ?_
      refine WL.val (OV.mulI (a := -1000) (b := (m : Int)) rfl rfl (by omega)) rfl ?_
      refine WL.val (OV.move rfl) rfl ?_
      refine WL.val (OV.subI (a := -1000 * (m : Int)) (b := (i : Int)) rfl rfl (by omega)) rfl ?_
      refine WL.val (OV.subI (a := -1000 * (m : Int) - (i : Int)) (b := 1) rfl rfl (by omega)) rfl ?_
      obtain ⟨b0, hb0⟩ := hya y (List.mem_of_getElem? hy) (by omega)
      have hza : z.a = some ⟨b0, 0, none⟩ := hsm.1.trans hb0
      refine WL.val ((OV.indexSliceA (a := ⟨b0, 0, none⟩) (i := k) (show _ = some (Value.slice (some ⟨b0, 0, none⟩) z.l.length z.c) by rw [← hza]; rfl) rfl T.u23 T.z3 (by omega)).cast (u := .pointer (some ⟨b0, k, none⟩)) (by rw [add_off, Nat.zero_add])) rfl ?_
      obtain ⟨z1, z2, hz12, hz1l⟩ := split_get hz
      refine WL.focus (ow' := row 3 1 z.a z.l.length z.c (ints z.l) :: (row 23 1 la ys.length lc (ys.map encC) :: (z1 ++ z2).flatMap colA)) ((perm_cat [[row 23 1 la ys.length lc (ys.map encC)], [row 3 1 z.a z.l.length z.c (ints z.l)], (z1 ++ z2).flatMap colA] [1, 0, 2] (by decide) rfl).trans (List.Perm.cons _ (by rw [hz12]; exact flat_ahead colA z1 z2 z))) (WL.storeRow (o := k) rfl hza rfl rfl T.z3 (by rw [ints_length]; omega) ?_)
      rw [show (-1000 * (m : Int) - (i : Int) - 1) = mkm m i from rfl, ints_set]
      refine WL.nil ?_
      refine WX.block_normal ?_
      refine WX.next ?_
      refine WC.region ?_
      refine WL.val (OV.move rfl) rfl ?_
      first
      | (refine WL.val (OV.addI rfl rfl (by omega)) rfl ?_)
      | (refine WL.val (OV.add rfl rfl) rfl ?_)
      refine WL.val (OV.assign rfl) rfl ?_
      refine WL.nil ?_
      subst hz12
      subst hz1l
      exact WX.round2 (k + 1) (z1 ++ { z with l := z.l.set k (mkm m z1.length) } :: z2) ⟨rfl, rfl, rfl, rfl, trivial⟩ (fun w' hw => ⟨hmk.cell (by omega), hw.perm (by
        refine List.Perm.trans (List.Perm.cons _ (flat_ahead colA z1 z2 _).symm) ?_
        show (_ :: row 3 1 z.a (z.l.set k _).length z.c _ :: _).Perm _
        rw [List.length_set]
        exact List.Perm.swap _ _ _)⟩) (by show 5 - (k + 1) < 5 - k; omega)
    · try simp only [decide_eq_true_eq, decide_eq_false_iff_not, Bool.not_eq_true', Bool.not_eq_false'] at c21
      refine WC.exit ?_
      refine WX.then_exit ?_
      refine WX.then_exit ?_
      refine WX.block_hit ?_
      refine WX.block_normal ?_
      refine WX.next ?_
      refine WC.region ?_
      refine WL.val (OV.move rfl) rfl ?_
      first
      | (refine WL.val (OV.addI rfl rfl (by omega)) rfl ?_)
      | (refine WL.val (OV.add rfl rfl) rfl ?_)
      refine WL.val (OV.assign rfl) rfl ?_
      refine WL.nil ?_
      exact WX.round2 (i + 1) zs ⟨rfl, rfl, rfl, trivial⟩ (fun w' hw => ⟨⟨by omega, hmk.row hz (by omega)⟩, hw⟩) (by show ys.length - (i + 1) < ys.length - i; omega)
  · try simp only [decide_eq_true_eq, decide_eq_false_iff_not, Bool.not_eq_true', Bool.not_eq_false'] at c12
    refine WC.exit ?_
    refine WX.then_exit ?_
    refine WX.then_exit ?_
    refine WX.block_hit ?_
    refine WX.next ?_
    refine WC.seq ?_
    refine WC.region ?_
    refine WL.val (OV.assign rfl) rfl ?_
    refine WL.nil ?_
    refine WX.next ?_
    refine WC.seq ?_
    refine WC.seq ?_
    refine WC.region ?_
    refine WL.val (OV.assign rfl) rfl ?_
    refine WL.nil ?_
    refine WX.next ?_
    refine WC.block ?_
    have hin : i = ys.length := by omega
    subst hin
    refine WC.loop4 (fun (i : Nat) (ka : Option Addr) (kc : Nat) (ks : List KE) => [(0, .slice la ys.length lc), (1, .int .i64 (m : Int)), (7, .slice ka ks.length kc), (8, .int .i64 (i : Int))])
        (fun i ka kc ks w' => (i ≤ ys.length ∧ ks.length = i ∧ ∀ k ∈ ks, KE.good k) ∧ Sat w (DD (lstA la lc ys)) (fun b => b < w.heap.size ∧ ¬ DD (lstA la lc ys) b) w (row 23 1 la ys.length lc (ys.map encC) :: row 91 3 ka ks.length kc (kvals ks) :: ((zs0.drop i).flatMap colA ++ ks.flatMap keA)) w')
        (fun i _ _ _ => ys.length - i) 0 none 0 [] ⟨rfl, rfl, rfl, rfl, trivial⟩ (fun w' hw => ⟨⟨by omega, rfl, by simp⟩, ((hw.rowNil 91 3).perm (perm_cat [[row 91 3 none 0 0 []], [row 23 1 la ys.length lc (ys.map encC)], zs0.flatMap colA] [1, 0, 2] (by decide) rfl)).perm (List.Perm.of_eq (by simp [cat, kvals]))⟩) ?_
    have hmk := hmk0
    obtain ⟨zs, hzs⟩ : ∃ zs, zs = zs0 := ⟨_, rfl⟩
    rw [← hzs] at hmk ⊢
    intro i ka kc ks
    refine WC.pure (fun hi => ?_)
    obtain ⟨hi, hksl, hgood⟩ := hi
    refine WC.seq ?_
    refine WC.seq ?_
    refine WC.region ?_
    refine WL.val (OV.move rfl) rfl ?_
    refine WL.val (OV.move rfl) rfl ?_
    first
    | (refine WL.val (OV.lenSlice rfl T.u29) rfl ?_)
    | (refine WL.val (OV.lenStr rfl T.u29) rfl ?_)
    refine WL.val (OV.lss rfl rfl) rfl ?_
    refine WL.nil ?_
    refine WX.next ?_
    refine WC.cond rfl (fun c38 => ?_) (fun c38 => ?_)
    · try simp only [decide_eq_true_eq, decide_eq_false_iff_not, Bool.not_eq_true', Bool.not_eq_false'] at c38
      refine WC.skip ?_
      refine WX.next ?_
      refine WC.seq ?_
      refine WC.block ?_
      refine WC.drawn (fun w' => (row 23 1 la ys.length lc (ys.map encC)).φ w') [] (by kernel_rfl) (by kernel_rfl) (m := 25) rfl ?_
      refine WH.free 0 rfl (by kernel_rfl) (by kernel_rfl) (by kernel_rfl) rfl (fun _ => (fun _ hw => hw.it _ (by simp))) (OV.move rfl) rfl (listed' := [true, false, false, false, false, false, false, false, false, false, false, false, false, false, false, false, false, false, false, false, false, false, false, false, false]) rfl ?_
      refine WH.free 1 rfl (by kernel_rfl) (by kernel_rfl) (by kernel_rfl) rfl (fun _ => (fun _ hw => hw.it _ (by simp))) (OV.move rfl) rfl (listed' := [true, true, false, false, false, false, false, false, false, false, false, false, false, false, false, false, false, false, false, false, false, false, false, false, false]) rfl ?_
      refine WH.free 2 rfl (by kernel_rfl) (by kernel_rfl) (by kernel_rfl) rfl (fun _ => (fun _ hw => hw.it _ (by simp))) (OV.move rfl) rfl (listed' := [true, true, true, false, false, false, false, false, false, false, false, false, false, false, false, false, false, false, false, false, false, false, false, false, false]) rfl ?_
      have hzl := hmk.len
      have hdone := hmk.done
      obtain ⟨z, hz⟩ : ∃ z, zs[i]? = some z := ⟨_, List.getElem?_eq_getElem (by omega)⟩
      obtain ⟨y, hy⟩ : ∃ y, ys[i]? = some y := ⟨_, List.getElem?_eq_getElem (by omega)⟩
      have hsm := hmk.same i y z hy hz
      have hzn : z.l.length ≤ 5 := by have := hyn y (List.mem_of_getElem? hy); omega
      have henc : (ys.map encC)[i]? = some (encC z) := by rw [← hmk.enc, List.getElem?_map, hz]; rfl
      obtain ⟨q1, hq1⟩ := hla (by omega)
      refine WH.free 3 rfl (by kernel_rfl) (by kernel_rfl) (by kernel_rfl) rfl (fun _ => (fun _ hw => hw.it _ (by simp))) (OV.indexSliceA (a := ⟨q1, 0, none⟩) (i := i) (show _ = some (Value.slice (some ⟨q1, 0, none⟩) ys.length lc) by rw [← hq1]; rfl) rfl T.u29 T.z23 (by omega)) rfl (listed' := [true, true, true, true, false, false, false, false, false, false, false, false, false, false, false, false, false, false, false, false, false, false, false, false, false]) rfl ?_
      refine WH.take 4 rfl (by kernel_rfl) (by kernel_rfl) (by kernel_rfl) (by kernel_rfl) (fun _ hw => hw.it _ (by simp)) (OV.load1 (v := encC z) rfl T.u23 rfl (fun _ hw => row_cellsφE hq1 hw i _ henc)) rfl (listed' := [true, true, true, true, true, false, false, false, false, false, false, false, false, false, false, false, false, false, false, false, false, false, false, false, false]) rfl ?_
      refine WH.free 5 rfl (by kernel_rfl) (by kernel_rfl) (by kernel_rfl) rfl (fun _ => (fun _ hw => hw.it _ (by simp))) (OV.move rfl) rfl (listed' := [true, true, true, true, true, true, false, false, false, false, false, false, false, false, false, false, false, false, false, false, false, false, false, false, false]) rfl ?_
      refine WH.free 6 rfl (by kernel_rfl) (by kernel_rfl) (by kernel_rfl) rfl (fun _ => (fun _ hw => hw.it _ (by simp))) (OV.move rfl) rfl (listed' := [true, true, true, true, true, true, true, false, false, false, false, false, false, false, false, false, false, false, false, false, false, false, false, false, false]) rfl ?_
      refine WH.free 7 rfl (by kernel_rfl) (by kernel_rfl) (by kernel_rfl) rfl (fun _ => (fun _ hw => hw.it _ (by simp))) (OV.indexSliceA (a := ⟨q1, 0, none⟩) (i := i) (show _ = some (Value.slice (some ⟨q1, 0, none⟩) ys.length lc) by rw [← hq1]; rfl) rfl T.u29 T.z23 (by omega)) rfl (listed' := [true, true, true, true, true, true, true, true, false, false, false, false, false, false, false, false, false, false, false, false, false, false, false, false, false]) rfl ?_
      refine WH.take 8 rfl (by kernel_rfl) (by kernel_rfl) (by kernel_rfl) (by kernel_rfl) (fun _ hw => hw.it _ (by simp)) (OV.load1 (v := encC z) rfl T.u23 rfl (fun _ hw => row_cellsφE hq1 hw i _ henc)) rfl (listed' := [true, true, true, true, true, true, true, true, true, false, false, false, false, false, false, false, false, false, false, false, false, false, false, false, false]) rfl ?_
      refine WH.free 9 rfl (by kernel_rfl) (by kernel_rfl) (by kernel_rfl) rfl (fun _ => (fun _ hw => hw.it _ (by simp))) (OV.move rfl) rfl (listed' := [true, true, true, true, true, true, true, true, true, true, false, false, false, false, false, false, false, false, false, false, false, false, false, false, false]) rfl ?_
      refine WH.free 10 rfl (by kernel_rfl) (by kernel_rfl) (by kernel_rfl) rfl (fun _ => (fun _ hw => hw.it _ (by simp))) (OV.mulI (a := -1000) (b := (m : Int)) rfl rfl (by omega)) rfl (listed' := [true, true, true, true, true, true, true, true, true, true, true, false, false, false, false, false, false, false, false, false, false, false, false, false, false]) rfl ?_
      refine WH.free 11 rfl (by kernel_rfl) (by kernel_rfl) (by kernel_rfl) rfl (fun _ => (fun _ hw => hw.it _ (by simp))) (OV.move rfl) rfl (listed' := [true, true, true, true, true, true, true, true, true, true, true, true, false, false, false, false, false, false, false, false, false, false, false, false, false]) rfl ?_
      refine WH.free 12 rfl (by kernel_rfl) (by kernel_rfl) (by kernel_rfl) rfl (fun _ => (fun _ hw => hw.it _ (by simp))) (OV.subI (a := -1000 * (m : Int)) (b := (i : Int)) rfl rfl (by omega)) rfl (listed' := [true, true, true, true, true, true, true, true, true, true, true, true, true, false, false, false, false, false, false, false, false, false, false, false, false]) rfl ?_
      refine WH.free 13 rfl (by kernel_rfl) (by kernel_rfl) (by kernel_rfl) rfl (fun _ => (fun _ hw => hw.it _ (by simp))) (OV.subI (a := -1000 * (m : Int) - (i : Int)) (b := 1) rfl rfl (by omega)) rfl (listed' := [true, true, true, true, true, true, true, true, true, true, true, true, true, true, false, false, false, false, false, false, false, false, false, false, false]) rfl ?_
      refine WH.free 16 rfl (by kernel_rfl) (by kernel_rfl) (by kernel_rfl) rfl (fun _ => (fun _ hw => hw.it _ (by simp))) (OV.move rfl) rfl (listed' := [true, true, true, true, true, true, true, true, true, true, true, true, true, true, false, false, true, false, false, false, false, false, false, false, false]) rfl ?_
      refine WH.free 17 rfl (by kernel_rfl) (by kernel_rfl) (by kernel_rfl) rfl (fun _ => (fun _ hw => hw.it _ (by simp))) (OV.mulI (a := -1000) (b := (m : Int)) rfl rfl (by omega)) rfl (listed' := [true, true, true, true, true, true, true, true, true, true, true, true, true, true, false, false, true, true, false, false, false, false, false, false, false]) rfl ?_
      refine WH.free 18 rfl (by kernel_rfl) (by kernel_rfl) (by kernel_rfl) rfl (fun _ => (fun _ hw => hw.it _ (by simp))) (OV.move rfl) rfl (listed' := [true, true, true, true, true, true, true, true, true, true, true, true, true, true, false, false, true, true, true, false, false, false, false, false, false]) rfl ?_
      refine WH.free 19 rfl (by kernel_rfl) (by kernel_rfl) (by kernel_rfl) rfl (fun _ => (fun _ hw => hw.it _ (by simp))) (OV.subI (a := -1000 * (m : Int)) (b := (i : Int)) rfl rfl (by omega)) rfl (listed' := [true, true, true, true, true, true, true, true, true, true, true, true, true, true, false, false, true, true, true, true, false, false, false, false, false]) rfl ?_
      refine WH.free 20 rfl (by kernel_rfl) (by kernel_rfl) (by kernel_rfl) rfl (fun _ => (fun _ hw => hw.it _ (by simp))) (OV.subI (a := -1000 * (m : Int) - (i : Int)) (b := 1) rfl rfl (by omega)) rfl (listed' := [true, true, true, true, true, true, true, true, true, true, true, true, true, true, false, false, true, true, true, true, true, false, false, false, false]) rfl ?_
      refine WH.only 14 rfl (by kernel_rfl) (listed' := [true, true, true, true, true, true, true, true, true, true, true, true, true, true, true, false, true, true, true, true, true, false, false, false, false]) rfl (fl' := false) rfl ?_
      refine WL.buildSlice1 T.u23 T.z3 T.zr3 rfl rfl rfl ?_
      intro b55
      refine WL.nil ?_
      refine WX.contD (by kernel_rfl) (fun _ => (fun _ hw => hw.it _ (by simp))) ?_
      refine WH.only 15 rfl (by kernel_rfl) (listed' := [true, true, true, true, true, true, true, true, true, true, true, true, true, true, true, true, true, true, true, true, true, false, false, false, false]) rfl (fl' := false) rfl ?_
      refine WL.focus (ow' := row 3 1 z.a z.l.length z.c (ints z.l) :: (own b55 (.cells [.int .i64 (mkm m i)].toArray 3 (0, 0)) :: row 23 1 la ys.length lc (ys.map encC) :: row 91 3 ka ks.length kc (kvals ks) :: ((zs.drop (i + 1)).flatMap colA ++ ks.flatMap keA))) ((perm_cat [[own b55 (.cells [.int .i64 (mkm m i)].toArray 3 (0, 0))], [row 23 1 la ys.length lc (ys.map encC)], [row 91 3 ka ks.length kc (kvals ks)], [row 3 1 z.a z.l.length z.c (ints z.l)], (zs.drop (i + 1)).flatMap colA, ks.flatMap keA] [3, 0, 1, 2, 4, 5] (by decide) rfl).trans (List.Perm.of_eq (by rw [drop_cons hz]; rfl))) (WL.appendK (news := ints [mkm m i]) rfl rfl T.apI (fun _ _ => own_src (.tail _ (.head _)) rfl) (ints_one _) ⟨by omega, by unfold maxLen; omega⟩ (by decide) rfl ?_)
      intro a56 c56 sh hsh
      refine WL.nil ?_
      refine WX.contD (by kernel_rfl) (fun _ => (fun _ hw => hw.it _ (by simp))) ?_
      refine WH.free 21 rfl (by kernel_rfl) (by kernel_rfl) (by kernel_rfl) rfl (fun _ => (fun _ hw => hw.it _ (by simp))) (OV.buildStruct (xs := [(0, .tmp 45), (1, .tmp 56), (2, .tmp 61)]) (pl := [(0, 1), (1, 1), (2, 1)]) (cs := keV (KE.mk z.a z.c a56 c56 z.l.length (mkm m i) sh)) T.u91 T.zr91 (by kernel_rfl) rfl (fill_cons (us := [_]) rfl rfl (by first | decide | simp) (fill_cons (us := [_]) rfl rfl (by first | decide | simp) (fill_cons (us := [_]) rfl rfl (by first | decide | simp) rfl)))) rfl (listed' := [true, true, true, true, true, true, true, true, true, true, true, true, true, true, true, true, true, true, true, true, true, true, false, false, false]) rfl ?_
      refine WH.only 22 rfl (by kernel_rfl) (listed' := [true, true, true, true, true, true, true, true, true, true, true, true, true, true, true, true, true, true, true, true, true, true, true, false, false]) rfl (fl' := false) rfl ?_
      refine WL.buildSliceA (cs := keV (KE.mk z.a z.c a56 c56 z.l.length (mkm m i) sh)) T.u48 T.z91 T.zr91 rfl rfl (by decide) (by decide) rfl ?_
      intro b63
      refine WL.nil ?_
      refine WX.contD (by kernel_rfl) (fun _ => (fun _ hw => hw.it _ (by simp))) ?_
      refine WH.only 23 rfl (by kernel_rfl) (listed' := [true, true, true, true, true, true, true, true, true, true, true, true, true, true, true, true, true, true, true, true, true, true, true, true, false]) rfl (fl' := false) rfl ?_
      refine WL.focus (ow' := row 91 3 ka ks.length kc (kvals ks) :: (own b63 (.cells (keV (KE.mk z.a z.c a56 c56 z.l.length (mkm m i) sh)).toArray 91 (0, 0)) :: row 3 1 a56 (z.l.length + 1) c56 (ints z.l ++ ints [mkm m i]) :: ((if sh then [] else [row 3 1 z.a z.l.length z.c (ints z.l)]) ++ (own b55 (.cells [.int .i64 (mkm m i)].toArray 3 (0, 0)) :: row 23 1 la ys.length lc (ys.map encC) :: ((zs.drop (i + 1)).flatMap colA ++ ks.flatMap keA))))) (perm_cat [[own b63 (.cells (keV (KE.mk z.a z.c a56 c56 z.l.length (mkm m i) sh)).toArray 91 (0, 0))], [row 3 1 a56 (z.l.length + 1) c56 (ints z.l ++ ints [mkm m i])], (if sh then [] else [row 3 1 z.a z.l.length z.c (ints z.l)]), [own b55 (.cells [.int .i64 (mkm m i)].toArray 3 (0, 0)), row 23 1 la ys.length lc (ys.map encC)], [row 91 3 ka ks.length kc (kvals ks)], (zs.drop (i + 1)).flatMap colA, ks.flatMap keA] [4, 0, 1, 2, 3, 5, 6] (by decide) rfl) (WL.append (news := keV (KE.mk z.a z.c a56 c56 z.l.length (mkm m i) sh)) rfl rfl T.apK (fun _ _ => own_srcN (.tail _ (.head _)) rfl) (keV_one _) ⟨by omega, by unfold maxLen; omega⟩ rfl ?_)
      intro a64 c64
      refine WL.nil ?_
      refine WX.contD (by kernel_rfl) (fun _ => (fun _ hw => hw.it _ (by simp))) ?_
      refine WH.free 24 rfl (by kernel_rfl) (by kernel_rfl) (by kernel_rfl) rfl (fun _ => (fun _ hw => hw.it _ (by simp))) (OV.assign rfl) rfl (listed' := [true, true, true, true, true, true, true, true, true, true, true, true, true, true, true, true, true, true, true, true, true, true, true, true, true]) rfl ?_
      refine WH.done (by kernel_rfl) ?_
      refine WX.block_normal ?_
      refine WX.next ?_
      refine WC.region ?_
      refine WL.val (OV.move rfl) rfl ?_
      first
      | (refine WL.val (OV.addI rfl rfl (by omega)) rfl ?_)
      | (refine WL.val (OV.add rfl rfl) rfl ?_)
      refine WL.val (OV.assign rfl) rfl ?_
      refine WL.nil ?_
      have hzm : z.l = rep z.l.length (mkm m i) := hdone i z (by omega) hz
      have hks1 : ks.length + 1 = (ks ++ [(KE.mk z.a z.c a56 c56 z.l.length (mkm m i) sh)]).length := by simp
      have hks2 : kvals ks ++ keV (KE.mk z.a z.c a56 c56 z.l.length (mkm m i) sh) = kvals (ks ++ [(KE.mk z.a z.c a56 c56 z.l.length (mkm m i) sh)]) := by simp [kvals]
      have hke : (ks ++ [(KE.mk z.a z.c a56 c56 z.l.length (mkm m i) sh)]).flatMap keA = ks.flatMap keA ++ (row 3 1 a56 (z.l.length + 1) c56 (ints z.l ++ ints [mkm m i]) :: (if sh then [] else [row 3 1 z.a z.l.length z.c (ints z.l)])) := by
        rw [List.flatMap_append]
        congr 1
        show keA _ ++ [] = _
        rw [List.append_nil]
        show row 3 1 a56 (z.l.length + 1) c56 (ints (rep (z.l.length + 1) (mkm m i))) :: (if sh = true then [] else [row 3 1 z.a z.l.length z.c (ints (rep z.l.length (mkm m i)))]) = _
        rw [← hzm, ← rep_snoc, ← hzm, ints_append]
      refine WX.round4 (i + 1) a64 c64 (ks ++ [(KE.mk z.a z.c a56 c56 z.l.length (mkm m i) sh)]) ⟨rfl, rfl, by rw [← hks1]; rfl, rfl, trivial⟩ (fun w' hw => ⟨⟨by omega, by omega, fun k hk => ?_⟩, by
        rw [← hks1, ← hks2, hke]
        exact hw.pick [[row 91 3 a64 (ks.length + 1) c64 (kvals ks ++ keV (KE.mk z.a z.c a56 c56 z.l.length (mkm m i) sh))], [own b63 (.cells (keV (KE.mk z.a z.c a56 c56 z.l.length (mkm m i) sh)).toArray 91 (0, 0))], [row 3 1 a56 (z.l.length + 1) c56 (ints z.l ++ ints [mkm m i])], (if sh then [] else [row 3 1 z.a z.l.length z.c (ints z.l)]), [own b55 (.cells [.int .i64 (mkm m i)].toArray 3 (0, 0))], [row 23 1 la ys.length lc (ys.map encC)], (zs.drop (i + 1)).flatMap colA, ks.flatMap keA] [5, 0, 6, 7, 2, 3] 8 rfl (by decide) (by decide)⟩) (by show ys.length - (i + 1) < ys.length - i; omega)
      rcases List.mem_append.1 hk with hk | hk
      · exact hgood k hk
      · simp only [List.mem_singleton] at hk; subst hk; exact ⟨hsh, hzn⟩
    · try simp only [decide_eq_true_eq, decide_eq_false_iff_not, Bool.not_eq_true', Bool.not_eq_false'] at c38
      refine WC.exit ?_
      refine WX.then_exit ?_
      refine WX.then_exit ?_
      refine WX.block_hit ?_
      refine WX.next ?_
      refine WC.seq ?_
      refine WC.region ?_
      refine WL.val (OV.move rfl) rfl ?_
      refine WL.val (OV.assign rfl) rfl ?_
      refine WL.nil ?_
      refine WX.next ?_
      refine WC.ret ?_
      exact WX.ret1 rfl rfl rfl (fun w' hw => ⟨ka, kc, ks, rfl, hgood, by omega, by
        have hin : i = ys.length := by omega
        rw [hin, List.drop_eq_nil_of_le (by rw [hmk.len]; exact Nat.le_refl _)] at hw
        exact hw.turned⟩)

end Go.Proofs.YtijplknkpkmblaaDoor
