/- Contracts of functions of the program: what each returns and leaves in memory. Printed by gen.py and walk.py. -/
import Derived.Test.YtijplknkpkmblaaGreatDoorK6
namespace Go.Proofs.YtijplknkpkmblaaGreatDoor
open Go Go.Hw
set_option linter.unusedSimpArgs false
set_option linter.unusedVariables false
/-- Is the part among these parts? -/
def inP (parts : Int) (p : Nat) : Bool := !decide (bits .and .i64 parts (p : Int) = 0)
def lenOf (es : List Ent) (parts : Int) : Nat := (es.filter fun e => inP parts e.part).length
def PK : List Nat := [1, 2, 4]
def lenTo (es : List Ent) (parts : Int) (i : Nat) : Nat := ((PK.take i).map fun p => if inP parts p then cnt es p else 0).sum
theorem cnt_cons (e : Ent) (es : List Ent) (q : Nat) : cnt (e :: es) q = (if e.part = q then 1 else 0) + cnt es q := by
  unfold cnt
  rw [List.filter_cons]
  split <;> simp_all <;> omega
theorem cnt_append (l m : List Ent) (q : Nat) : cnt (l ++ m) q = cnt l q + cnt m q := by simp [cnt]
theorem cnt_le (es : List Ent) (q : Nat) : cnt es q ≤ es.length := List.length_filter_le _ _
theorem lenTo_all {es : List Ent} (h : ∀ e ∈ es, e.part = 1 ∨ e.part = 2 ∨ e.part = 4) (parts : Int) : lenTo es parts 3 = lenOf es parts := by
  induction es with
  | nil => simp [lenTo, lenOf, cnt, PK]
  | cons e es ih =>
    have ih := ih (fun x hx => h x (.tail _ hx))
    have he := h e (.head _)
    simp only [lenTo, PK, List.take_succ_cons, List.take_nil, List.take_zero, List.map_cons, List.map_nil, List.sum_cons, List.sum_nil, cnt_cons, lenOf, List.filter_cons] at ih ⊢
    rcases he with he | he | he <;> rw [he] <;> (by_cases h1 : inP parts 1 = true <;> by_cases h2 : inP parts 2 = true <;> by_cases h4 : inP parts 4 = true <;> simp only [h1, h2, h4, if_true, if_false, Bool.false_eq_true, List.length_cons] at ih ⊢ <;> simp <;> omega)
theorem lenTo_step (es : List Ent) (parts : Int) {i : Nat} (hi : i < 3) : lenTo es parts (i + 1) = lenTo es parts i + if inP parts (PK.getD i 0) then cnt es (PK.getD i 0) else 0 := by
  match i, hi with
  | 0, _ => simp [lenTo, PK]
  | 1, _ => simp [lenTo, PK]
  | 2, _ => simp [lenTo, PK, Nat.add_assoc]
theorem lenTo_le (es : List Ent) (parts : Int) {i : Nat} (hi : i ≤ 3) : lenTo es parts i ≤ 3 * es.length := by
  have h1 := cnt_le es 1
  have h2 := cnt_le es 2
  have h4 := cnt_le es 4
  match i, hi with
  | 0, _ => simp [lenTo]
  | 1, _ => simp only [lenTo, PK, List.take_succ_cons, List.take_zero, List.map_cons, List.map_nil, List.sum_cons, List.sum_nil]; split <;> omega
  | 2, _ => simp only [lenTo, PK, List.take_succ_cons, List.take_zero, List.map_cons, List.map_nil, List.sum_cons, List.sum_nil]; (split <;> split <;> omega)
  | 3, _ => simp only [lenTo, PK, List.take_succ_cons, List.take_zero, List.map_cons, List.map_nil, List.sum_cons, List.sum_nil]; (split <;> split <;> split <;> omega)
theorem PK_lt {i : Nat} (hi : i < 3) : PK.getD i 0 < 8 ∧ 0 < PK.getD i 0 := by
  match i, hi with
  | 0, _ => decide
  | 1, _ => decide
  | 2, _ => decide
theorem PK_cell {i : Nat} (hi : i < 3) : ([.int .i64 1, .int .i64 2, .int .i64 4] : List Value)[i]? = some (.int .i64 ((PK.getD i 0 : Nat) : Int)) := by
  match i, hi with
  | 0, _ => rfl
  | 1, _ => rfl
  | 2, _ => rfl

set_option maxRecDepth 10000 in
theorem len_calls (g : RelG) (ok : RelOK g) (parts : Int) (w : World) (hA : Holds (relA g) w) : Calls Tryz.prog 22 #[.pointer (some ⟨g.r, 0, none⟩), .int .i64 parts] w fun e w' => e = .returned (.int .i64 (lenOf g.es parts : Int)) ∧ Fr0 w w' := by
  refine enterS (args := [.pointer (some ⟨g.r, 0, none⟩), .int .i64 parts]) (fun _ => False) Tryz.func22 rfl Tryz.ntmps22 rfl rfl ?_
  refine WC.seq ?_
  refine WC.region ?_
  refine WL.val (OV.assign rfl) rfl ?_
  refine WL.nil ?_
  refine WX.next ?_
  refine WC.seq ?_
  refine WC.region ?_
  refine WL.val (OV.assign rfl) rfl ?_
  refine WL.nil ?_
  refine WX.next ?_
  refine WC.seq ?_
  refine WC.seq ?_
  refine WC.region ?_
  refine WL.buildSliceN (xs := [.const (.int .i64 1), .const (.int .i64 2), .const (.int .i64 4)]) (vs := [.int .i64 1, .int .i64 2, .int .i64 4]) rfl T.u32 T.z3 T.zr3 rfl rfl rfl (by decide) rfl ?_
  intro b8
  first
  | (refine WL.val (OV.lenSlice rfl T.u32) rfl ?_)
  | (refine WL.val (OV.lenStr rfl T.u32) rfl ?_)
  refine WL.val (OV.move rfl) rfl ?_
  refine WL.nil ?_
  refine WX.next ?_
  refine WC.block ?_
  refine WC.loop2 (fun (i : Nat) (nn : Nat) => [(0, .pointer (some ⟨g.r, 0, none⟩)), (1, .int .i64 parts), (5, .int .i64 (nn : Int)), (8, .slice (some ⟨b8, 0, none⟩) 3 3), (9, .int .i64 3), (10, .int .i64 (i : Int))])
      (fun i nn w' => (i ≤ 3 ∧ nn = lenTo g.es parts i) ∧ Sat w (fun _ => False) (fun b => b < w.heap.size) w [own b8 (.cells ([.int .i64 1, .int .i64 2, .int .i64 4] : List Value).toArray 3 (0, 0))] w')
      (fun i _ => 3 - i) 0 0 ⟨rfl, rfl, rfl, rfl, rfl, rfl, trivial⟩ (fun w' hw => ⟨⟨by omega, by simp [lenTo]⟩, hw⟩) ?_
  intro i nn
  refine WC.pure (fun hi => ?_)
  obtain ⟨hi, rfl⟩ := hi
  refine WC.seq ?_
  refine WC.region ?_
  refine WL.val (OV.lss rfl rfl) rfl ?_
  refine WL.nil ?_
  refine WX.next ?_
  refine WC.seq ?_
  refine WC.cond rfl (fun c11 => ?_) (fun c11 => ?_)
  · try simp only [decide_eq_true_eq, decide_eq_false_iff_not, Bool.not_eq_true', Bool.not_eq_false'] at c11
    refine WC.skip ?_
    refine WX.next ?_
    refine WC.seq ?_
    refine WC.block ?_
    refine WC.seq ?_
    refine WC.region ?_
    first
    | (refine WL.val (OV.indexSliceN rfl rfl T.u32 T.z3 (by omega)) rfl ?_)
    | (refine WL.val (OV.indexSliceA rfl rfl T.u32 T.z3 (by omega)) rfl ?_)
    | (refine WL.val (OV.indexSlice1 rfl rfl T.u32 T.z3 (by omega)) rfl ?_)
    have hp8 := PK_lt (i := i) (by omega)
    refine WL.val (OV.load1 (v := .int .i64 ((PK.getD i 0 : Nat) : Int)) rfl T.u3 rfl (fun _ hw => cell_own hw (.head _) (by simpa using PK_cell (i := i) (by omega)))) rfl ?_
    refine WL.val (OV.assign rfl) rfl ?_
    refine WL.nil ?_
    refine WX.next ?_
    refine WC.seq ?_
    refine WC.region ?_
    refine WL.val (OV.move rfl) rfl ?_
    refine WL.val (OV.move rfl) rfl ?_
    first
    | (refine WL.val (OV.andW rfl rfl) rfl ?_)
    | (refine WL.val (OV.andB rfl rfl) rfl ?_)
    | (refine WL.val (OV.and rfl rfl) rfl ?_)
    refine WL.val (OV.neq rfl rfl) rfl ?_
    refine WL.nil ?_
    refine WX.next ?_
    refine WC.cond rfl (fun c17 => ?_) (fun c17 => ?_)
    · try simp only [decide_eq_true_eq, decide_eq_false_iff_not, Bool.not_eq_true', Bool.not_eq_false'] at c17
      refine WC.region ?_
      refine WL.val (OV.move rfl) rfl ?_
      refine WL.val (OV.move rfl) rfl ?_
      refine WL.val (OV.move rfl) rfl ?_
      refine WL.val (OV.nilCheck rfl) rfl ?_
      first
      | (refine WL.val (OV.fieldAddr0 (off := 4) rfl T.u66 rfl) rfl ?_)
      | (refine WL.val (OV.fieldAddr (off := 4) rfl T.u66 rfl) rfl ?_)
      first
      | (refine WL.val (OV.indexArrN rfl rfl T.u57 T.z3 (by omega)) rfl ?_)
      | (refine WL.val (OV.indexArrON rfl rfl T.u57 T.z3 (by omega)) rfl ?_)
      | (refine WL.val (OV.indexArr1 rfl rfl T.u57 T.z3 (by omega)) rfl ?_)
      refine WL.val (OV.load1 (v := .int .i64 (cnt g.es (PK.getD i 0) : Int)) rfl T.u3 rfl (fun _ hw => snapL hw (cell_at (relA_hd hA) (hdC_cnt (counts_get hp8.1))).1)) rfl ?_
      have hc1 := cnt_le g.es (PK.getD i 0)
      have hc2 := lenTo_le g.es parts (i := i) (by omega)
      have hc3 := ok.el
      first
      | (refine WL.val (OV.addI rfl rfl (by omega)) rfl ?_)
      | (refine WL.val (OV.add rfl rfl) rfl ?_)
      refine WL.val (OV.assign rfl) rfl ?_
      refine WL.nil ?_
      refine WX.block_normal ?_
      refine WX.next ?_
      refine WC.region ?_
      first
      | (refine WL.val (OV.addI rfl rfl (by omega)) rfl ?_)
      | (refine WL.val (OV.add rfl rfl) rfl ?_)
      refine WL.val (OV.move rfl) rfl ?_
      refine WL.nil ?_
      have hst := lenTo_step g.es parts (i := i) (by omega)
      rw [if_pos (by simpa [inP] using c17)] at hst
      exact WX.round2 (i + 1) (lenTo g.es parts (i + 1)) ⟨rfl, rfl, by rw [hst, Int.natCast_add]; rfl, rfl, rfl, rfl, trivial⟩ (fun w' hw => ⟨⟨by omega, rfl⟩, hw⟩) (by show 3 - (i + 1) < 3 - i; omega)
    · try simp only [decide_eq_true_eq, decide_eq_false_iff_not, Bool.not_eq_true', Bool.not_eq_false'] at c17
      refine WC.skip ?_
      refine WX.block_normal ?_
      refine WX.next ?_
      refine WC.region ?_
      first
      | (refine WL.val (OV.addI rfl rfl (by omega)) rfl ?_)
      | (refine WL.val (OV.add rfl rfl) rfl ?_)
      refine WL.val (OV.move rfl) rfl ?_
      refine WL.nil ?_
      have hst := lenTo_step g.es parts (i := i) (by omega)
      rw [if_neg (by simpa [inP] using c17)] at hst
      exact WX.round2 (i + 1) (lenTo g.es parts (i + 1)) ⟨rfl, rfl, by rw [hst]; rfl, rfl, rfl, rfl, trivial⟩ (fun w' hw => ⟨⟨by omega, rfl⟩, hw⟩) (by show 3 - (i + 1) < 3 - i; omega)
  · try simp only [decide_eq_true_eq, decide_eq_false_iff_not, Bool.not_eq_true', Bool.not_eq_false'] at c11
    refine WC.exit ?_
    refine WX.then_exit ?_
    refine WX.then_exit ?_
    refine WX.block_hit ?_
    refine WX.next ?_
    refine WC.seq ?_
    refine WC.region ?_
    refine WL.val (OV.move rfl) rfl ?_
    refine WL.val (OV.assign rfl) rfl ?_
    refine WL.nil ?_
    refine WX.next ?_
    refine WC.ret ?_
    have hi3 : i = 3 := by omega
    subst hi3
    exact WX.ret1 rfl rfl rfl (fun w hw => ⟨by rw [lenTo_all ok.part], hw.fr⟩)

/-- The entries with these pointers come into another part. -/
def mvE (ps : List Nat) (q : Nat) (e : Ent) : Ent := if e.p ∈ ps then { e with part := q } else e
def mv (es : List Ent) (ps : List Nat) (q : Nat) : List Ent := es.map (mvE ps q)
theorem mvE_p (ps : List Nat) (q : Nat) (e : Ent) : (mvE ps q e).p = e.p ∧ (mvE ps q e).row = e.row ∧ (mvE ps q e).a = e.a ∧ (mvE ps q e).c = e.c := by
  unfold mvE; split <;> simp
theorem mv_nil (es : List Ent) (q : Nat) : mv es [] q = es := by
  have : mvE [] q = id := by funext e; simp [mvE]
  rw [mv, this, List.map_id]
theorem nd_inj {α : Type} {l : List α} (h : l.Nodup) {i j : Nat} (hi : i < l.length) (hj : j < l.length) (he : l[i] = l[j]) : i = j := by
  rcases Nat.lt_trichotomy i j with hlt | hlt | hlt
  · exact absurd he ((List.pairwise_iff_getElem.1 h) i j hi hj hlt)
  · exact hlt
  · exact absurd he.symm ((List.pairwise_iff_getElem.1 h) j i hj hi hlt)
theorem ent_eq {es : List Ent} (hn : (es.map (·.p)).Nodup) {x y : Ent} (hx : x ∈ es) (hy : y ∈ es) (h : x.p = y.p) : x = y := by
  obtain ⟨i, hi, rfl⟩ := List.mem_iff_getElem.1 hx
  obtain ⟨j, hj, rfl⟩ := List.mem_iff_getElem.1 hy
  have := nd_inj hn (i := i) (j := j) (by simpa using hi) (by simpa using hj) (by simpa using h)
  subst this
  rfl
theorem row_addr {w : World} {T c m : Nat} {a : Option Addr} {xs : List Value} (h : (row T 1 a m c xs).φ w) (hm : 0 < m) : ∃ b, a = some ⟨b, 0, none⟩ := by
  have h2 : w.ownsRow 0 T 1 (.slice a m c) m xs := h
  rcases h2.2 with ⟨hv, h0⟩ | ⟨g, cc, cur, hv, _⟩
  · omega
  · simp only [Value.slice.injEq] at hv
    exact ⟨g, hv.1⟩
theorem mv_snoc {es : List Ent} {ps : List Nat} {q p : Nat} (hn : (es.map (·.p)).Nodup) (hp : p ∈ es.map (·.p)) (hnp : p ∉ ps) :
    ∃ l1 e l2, mv es ps q = l1 ++ e :: l2 ∧ e.p = p ∧ e ∈ es ∧ mv es (ps ++ [p]) q = l1 ++ { e with part := q } :: l2 := by
  obtain ⟨e, he, rfl⟩ := List.mem_map.1 hp
  obtain ⟨m1, m2, rfl⟩ := split_mem he
  have h1 : ∀ x ∈ m1 ++ m2, x.p ≠ e.p := by
    intro x hx hh
    rw [List.map_append, List.map_cons] at hn
    have hn2 := List.nodup_append.1 hn
    rcases List.mem_append.1 hx with hx | hx
    · exact hn2.2.2 _ (List.mem_map.2 ⟨x, hx, rfl⟩) _ (.head _) hh
    · exact (List.nodup_cons.1 hn2.2.1).1 (List.mem_map.2 ⟨x, hx, hh⟩)
  have key : ∀ l : List Ent, (∀ x ∈ l, x.p ≠ e.p) → mv l (ps ++ [e.p]) q = mv l ps q := by
    intro l hl
    unfold mv
    apply List.map_congr_left
    intro x hx
    unfold mvE
    have : x.p ∈ ps ++ [e.p] ↔ x.p ∈ ps := by simp [hl x hx]
    simp only [this]
  refine ⟨mv m1 ps q, e, mv m2 ps q, ?_, rfl, by simp, ?_⟩
  · simp [mv, mvE, hnp]
  · have k1 := key m1 (fun x hx => h1 x (List.mem_append_left _ hx))
    have k2 := key m2 (fun x hx => h1 x (List.mem_append_right _ hx))
    rw [← k1, ← k2]
    simp [mv, mvE]
theorem counts_move (l1 l2 : List Ent) (e : Ent) (q : Nat) (he : e.part < 8) (hq : q < 8) (hne : e.part ≠ q) :
    ((counts (l1 ++ e :: l2)).set e.part ((cnt (l1 ++ e :: l2) e.part : Int) - 1)).set q ((cnt (l1 ++ e :: l2) q : Int) + 1) = counts (l1 ++ { e with part := q } :: l2) := by
  apply List.ext_getElem?
  intro i
  by_cases hi : i < 8
  · rw [counts_get hi, List.getElem?_set, List.getElem?_set, counts_get hi, cnt_append, cnt_cons, cnt_append, cnt_cons, cnt_append, cnt_cons, cnt_append, cnt_cons]
    simp only [counts_length, List.length_set]
    by_cases h1 : q = i
    · subst h1
      simp [hq, hne]; omega
    · by_cases h2 : e.part = i
      · subst h2
        simp [h1, he, Ne.symm h1]; omega
      · simp [h1, h2]
  · rw [List.getElem?_eq_none (by simp [counts]; omega), List.getElem?_eq_none (by simp [counts]; omega)]
theorem entC_set (e : Ent) (q : Nat) : (entC e).set 1 (.int .i64 (q : Int)) = entC { e with part := q } := rfl
theorem mv_length (es : List Ent) (ps : List Nat) (q : Nat) : (mv es ps q).length = es.length := by simp [mv]

set_option maxRecDepth 10000 in
theorem move_calls (r wd mb ib : Nat) (f n : Value) (la : Option Addr) (lc : Nat) (ps : List Nat) (es : List Ent) (q0 q : Nat) (hq0 : q0 < 8) (hq : q < 8) (hne : q0 ≠ q) (hps : ps.Nodup) (hnd : (es.map (·.p)).Nodup) (hin : ∀ p ∈ ps, ∃ e ∈ es, e.p = p ∧ e.part = q0) (hel : es.length ≤ 1099511627776) (hpl : ps.length ≤ 1099511627776) (w : World) (hA : Holds (hdA r (hdC wd mb f n (counts es) ib) :: psA la lc ps :: es.flatMap entA) w) :
  Calls Tryz.prog 37 #[.pointer (some ⟨r, 0, none⟩), .slice la ps.length lc, .int .i64 (q : Int)] w fun e w' => e = .returned (.tuple #[]) ∧ Turns (hdA r (hdC wd mb f n (counts es) ib) :: psA la lc ps :: es.flatMap entA) (hdA r (hdC wd mb f n (counts (mv es ps q)) ib) :: psA la lc ps :: (mv es ps q).flatMap entA) w w' := by
  refine enterA hA (args := [.pointer (some ⟨r, 0, none⟩), .slice la ps.length lc, .int .i64 (q : Int)]) Tryz.func37 rfl Tryz.ntmps37 rfl rfl ?_
  refine WC.seq ?_
  refine WC.region ?_
  refine WL.val (OV.move rfl) rfl ?_
  first
  | (refine WL.val (OV.lenSlice rfl T.u56) rfl ?_)
  | (refine WL.val (OV.lenStr rfl T.u56) rfl ?_)
  refine WL.val (OV.move rfl) rfl ?_
  refine WL.nil ?_
  refine WX.next ?_
  refine WC.block ?_
  refine WC.loop1 (fun (i : Nat) => [(0, .pointer (some ⟨r, 0, none⟩)), (2, .int .i64 (q : Int)), (8, .slice la ps.length lc), (9, .int .i64 (ps.length : Int)), (10, .int .i64 (i : Int))])
      (fun i w' => i ≤ ps.length ∧ Sat w (DD (hdA r (hdC wd mb f n (counts es) ib) :: psA la lc ps :: es.flatMap entA)) (fun b => b < w.heap.size ∧ ¬ DD (hdA r (hdC wd mb f n (counts es) ib) :: psA la lc ps :: es.flatMap entA) b) w (hdA r (hdC wd mb f n (counts (mv es (ps.take i) q)) ib) :: psA la lc ps :: (mv es (ps.take i) q).flatMap entA) w')
      (fun i => ps.length - i) 0 ⟨rfl, rfl, rfl, rfl, rfl, trivial⟩ (fun w' hw => ⟨by omega, by rw [List.take_zero, mv_nil]; exact hw⟩) ?_
  intro i
  refine WC.pure (fun hi => ?_)
  refine WC.seq ?_
  refine WC.region ?_
  refine WL.val (OV.lss rfl rfl) rfl ?_
  refine WL.nil ?_
  refine WX.next ?_
  refine WC.seq ?_
  refine WC.cond rfl (fun c11 => ?_) (fun c11 => ?_)
  · try simp only [decide_eq_true_eq, decide_eq_false_iff_not, Bool.not_eq_true', Bool.not_eq_false'] at c11
    refine WC.skip ?_
    refine WX.next ?_
    refine WC.seq ?_
    refine WC.block ?_
    refine WC.seq ?_
    refine WC.region ?_
    have hil : i < ps.length := by omega
    have hpi : ps[i]? = some ps[i] := List.getElem?_eq_getElem hil
    have hnt : ps[i] ∉ ps.take i := by
      intro hh
      obtain ⟨j, hj, hje⟩ := List.mem_iff_getElem.1 hh
      rw [List.getElem_take] at hje
      simp only [List.length_take] at hj
      have := nd_inj hps (i := j) (j := i) (by omega) hil hje
      omega
    obtain ⟨e0, he0, hep0, heq0⟩ := hin _ (List.getElem_mem hil)
    obtain ⟨l1, e, l2, hsp, hep, hee, hst⟩ := mv_snoc (q := q) hnd (List.mem_map.2 ⟨e0, he0, hep0⟩) hnt
    have heq : e.part = q0 := by rw [ent_eq hnd hee he0 (hep.trans hep0.symm), heq0]
    have htk : ps.take (i + 1) = ps.take i ++ [ps[i]] := by rw [List.take_add_one, hpi]; rfl
    rw [← htk] at hst
    have hcl : cnt (l1 ++ e :: l2) q0 ≤ es.length := by rw [← hsp, ← mv_length es (ps.take i) q]; exact cnt_le _ _
    have hcl2 : cnt (l1 ++ e :: l2) q ≤ es.length := by rw [← hsp, ← mv_length es (ps.take i) q]; exact cnt_le _ _
    refine WL.weak (S' := Sat w (DD (hdA r (hdC wd mb f n (counts es) ib) :: psA la lc ps :: es.flatMap entA)) (fun b => b < w.heap.size ∧ ¬ DD (hdA r (hdC wd mb f n (counts es) ib) :: psA la lc ps :: es.flatMap entA) b) w (own e.p (.cells (entC e).toArray 80 (0, 0)) :: hdA r (hdC wd mb f n (counts (l1 ++ e :: l2)) ib) :: psA la lc ps :: row 3 1 e.a e.row.length e.c (ints e.row) :: (l1 ++ l2).flatMap entA)) (fun w' hw => ?_) ?_
    · rw [hsp] at hw
      refine hw.perm ?_
      refine List.Perm.trans ?_ (List.Perm.cons _ (List.Perm.cons _ (flat_ahead entA l1 l2 e)))
      exact perm2
    obtain ⟨lb, rfl⟩ := row_addr (hA.φ _ (.tail _ (.head _))) (by omega)
    refine WL.val (OV.indexSliceN rfl rfl T.u56 T.z78 (by omega)) rfl ?_
    refine WL.val (OV.load1 (v := ptr e.p) rfl T.u78 rfl (fun _ hw => by rw [hep]; have := row_cells hw (.tail _ (.tail _ (.head _))) i _ (ptrs_get hpi); rwa [add_off, Nat.zero_add] at this)) rfl ?_
    refine WL.val (OV.assign rfl) rfl ?_
    refine WL.nil ?_
    refine WX.next ?_
    refine WC.seq ?_
    refine WC.selfB [13] (by kernel_rfl) (by kernel_rfl) (m := 14) rfl ?_
    refine WH.free 0 rfl (by kernel_rfl) (by kernel_rfl) (by kernel_rfl) rfl (fun _ => (fun _ h => h)) (OV.move rfl) rfl (listed' := [true, false, false, false, false, false, false, false, false, false, false, false, false, false]) rfl ?_
    refine WH.free 1 rfl (by kernel_rfl) (by kernel_rfl) (by kernel_rfl) rfl (fun _ => (fun _ h => h)) (OV.move rfl) rfl (listed' := [true, true, false, false, false, false, false, false, false, false, false, false, false, false]) rfl ?_
    refine WH.free 2 rfl (by kernel_rfl) (by kernel_rfl) (by kernel_rfl) rfl (fun _ => (fun _ h => h)) (OV.nilCheck rfl) rfl (listed' := [true, true, true, false, false, false, false, false, false, false, false, false, false, false]) rfl ?_
    first
    | (refine WH.free 3 rfl (by kernel_rfl) (by kernel_rfl) (by kernel_rfl) rfl (fun _ => (fun _ h => h)) (OV.fieldAddr0 (off := 1) rfl T.u80 rfl) rfl (listed' := [true, true, true, true, false, false, false, false, false, false, false, false, false, false]) rfl ?_)
    | (refine WH.free 3 rfl (by kernel_rfl) (by kernel_rfl) (by kernel_rfl) rfl (fun _ => (fun _ h => h)) (OV.fieldAddr (off := 1) rfl T.u80 rfl) rfl (listed' := [true, true, true, true, false, false, false, false, false, false, false, false, false, false]) rfl ?_)
    refine WH.take 4 rfl (by kernel_rfl) (by kernel_rfl) (by kernel_rfl) (by kernel_rfl) (fun _ h => h) (OV.load1 (v := .int .i64 (q0 : Int)) rfl T.u3 rfl (fun _ hw => cell_own hw (.head _) (by rw [← heq]; rfl))) rfl (listed' := [true, true, true, true, true, false, false, false, false, false, false, false, false, false]) rfl ?_
    refine WH.free 5 rfl (by kernel_rfl) (by kernel_rfl) (by kernel_rfl) rfl (fun _ => (fun _ h => h)) (OV.nilCheck rfl) rfl (listed' := [true, true, true, true, true, true, false, false, false, false, false, false, false, false]) rfl ?_
    first
    | (refine WH.free 6 rfl (by kernel_rfl) (by kernel_rfl) (by kernel_rfl) rfl (fun _ => (fun _ h => h)) (OV.fieldAddr0 (off := 4) rfl T.u66 rfl) rfl (listed' := [true, true, true, true, true, true, true, false, false, false, false, false, false, false]) rfl ?_)
    | (refine WH.free 6 rfl (by kernel_rfl) (by kernel_rfl) (by kernel_rfl) rfl (fun _ => (fun _ h => h)) (OV.fieldAddr (off := 4) rfl T.u66 rfl) rfl (listed' := [true, true, true, true, true, true, true, false, false, false, false, false, false, false]) rfl ?_)
    first
    | (refine WH.free 7 rfl (by kernel_rfl) (by kernel_rfl) (by kernel_rfl) rfl (fun _ => (fun _ h => h)) (OV.indexArrN rfl rfl T.u57 T.z3 (by omega)) rfl (listed' := [true, true, true, true, true, true, true, true, false, false, false, false, false, false]) rfl ?_)
    | (refine WH.free 7 rfl (by kernel_rfl) (by kernel_rfl) (by kernel_rfl) rfl (fun _ => (fun _ h => h)) (OV.indexArrON rfl rfl T.u57 T.z3 (by omega)) rfl (listed' := [true, true, true, true, true, true, true, true, false, false, false, false, false, false]) rfl ?_)
    | (refine WH.free 7 rfl (by kernel_rfl) (by kernel_rfl) (by kernel_rfl) rfl (fun _ => (fun _ h => h)) (OV.indexArr1 rfl rfl T.u57 T.z3 (by omega)) rfl (listed' := [true, true, true, true, true, true, true, true, false, false, false, false, false, false]) rfl ?_)
    refine WH.take 8 rfl (by kernel_rfl) (by kernel_rfl) (by kernel_rfl) (by kernel_rfl) (fun _ h => h) (OV.load1 (v := .int .i64 (cnt (l1 ++ e :: l2) q0 : Int)) rfl T.u3 rfl (fun _ hw => cell_own hw (.tail _ (.head _)) (by rw [List.getElem?_toArray]; exact hdC_cnt (counts_get hq0)))) rfl (listed' := [true, true, true, true, true, true, true, true, true, false, false, false, false, false]) rfl ?_
    first
    | (refine WH.free 9 rfl (by kernel_rfl) (by kernel_rfl) (by kernel_rfl) rfl (fun _ => (fun _ h => h)) (OV.subN (j := 1) rfl rfl (wrap_i64 (by omega)) (by omega)) rfl (listed' := [true, true, true, true, true, true, true, true, true, true, false, false, false, false]) rfl ?_)
    | (refine WH.free 9 rfl (by kernel_rfl) (by kernel_rfl) (by kernel_rfl) rfl (fun _ => (fun _ h => h)) (OV.subI rfl rfl (by omega)) rfl (listed' := [true, true, true, true, true, true, true, true, true, true, false, false, false, false]) rfl ?_)
    | (refine WH.free 9 rfl (by kernel_rfl) (by kernel_rfl) (by kernel_rfl) rfl (fun _ => (fun _ h => h)) (OV.sub rfl rfl) rfl (listed' := [true, true, true, true, true, true, true, true, true, true, false, false, false, false]) rfl ?_)
    refine WH.free 10 rfl (by kernel_rfl) (by kernel_rfl) (by kernel_rfl) rfl (fun _ => (fun _ h => h)) (OV.nilCheck rfl) rfl (listed' := [true, true, true, true, true, true, true, true, true, true, true, false, false, false]) rfl ?_
    first
    | (refine WH.free 11 rfl (by kernel_rfl) (by kernel_rfl) (by kernel_rfl) rfl (fun _ => (fun _ h => h)) (OV.fieldAddr0 (off := 4) rfl T.u66 rfl) rfl (listed' := [true, true, true, true, true, true, true, true, true, true, true, true, false, false]) rfl ?_)
    | (refine WH.free 11 rfl (by kernel_rfl) (by kernel_rfl) (by kernel_rfl) rfl (fun _ => (fun _ h => h)) (OV.fieldAddr (off := 4) rfl T.u66 rfl) rfl (listed' := [true, true, true, true, true, true, true, true, true, true, true, true, false, false]) rfl ?_)
    first
    | (refine WH.free 12 rfl (by kernel_rfl) (by kernel_rfl) (by kernel_rfl) rfl (fun _ => (fun _ h => h)) (OV.indexArrN rfl rfl T.u57 T.z3 (by omega)) rfl (listed' := [true, true, true, true, true, true, true, true, true, true, true, true, true, false]) rfl ?_)
    | (refine WH.free 12 rfl (by kernel_rfl) (by kernel_rfl) (by kernel_rfl) rfl (fun _ => (fun _ h => h)) (OV.indexArrON rfl rfl T.u57 T.z3 (by omega)) rfl (listed' := [true, true, true, true, true, true, true, true, true, true, true, true, true, false]) rfl ?_)
    | (refine WH.free 12 rfl (by kernel_rfl) (by kernel_rfl) (by kernel_rfl) rfl (fun _ => (fun _ h => h)) (OV.indexArr1 rfl rfl T.u57 T.z3 (by omega)) rfl (listed' := [true, true, true, true, true, true, true, true, true, true, true, true, true, false]) rfl ?_)
    refine WH.only 13 rfl (by kernel_rfl) (listed' := [true, true, true, true, true, true, true, true, true, true, true, true, true, true]) rfl (fl' := true) rfl ?_
    refine WL.focus perm1 (WL.store1 (o := 4 + q0) rfl rfl rfl T.z3 (by rw [hdC_length (counts_length _)]; omega) ?_)
    rw [hdC_set (by rw [counts_length]; exact hq0)]
    refine WL.nil ?_
    refine WX.contD (by kernel_rfl) (fun h => by cases h) ?_
    refine WH.done (by kernel_rfl) ?_
    refine WX.next ?_
    refine WC.seq ?_
    refine WC.region ?_
    refine WL.val (OV.move rfl) rfl ?_
    refine WL.val (OV.move rfl) rfl ?_
    refine WL.val (OV.nilCheck rfl) rfl ?_
    first
    | (refine WL.val (OV.fieldAddr0 (off := 1) rfl T.u80 rfl) rfl ?_)
    | (refine WL.val (OV.fieldAddr (off := 1) rfl T.u80 rfl) rfl ?_)
    refine WL.focus perm1 (WL.store1 (o := 1) rfl rfl rfl T.z3 (by simp [entC]) ?_)
    rw [entC_set]
    refine WL.nil ?_
    refine WX.next ?_
    refine WC.selfB [10] (by kernel_rfl) (by kernel_rfl) (m := 11) rfl ?_
    refine WH.free 0 rfl (by kernel_rfl) (by kernel_rfl) (by kernel_rfl) rfl (fun _ => (fun _ h => h)) (OV.move rfl) rfl (listed' := [true, false, false, false, false, false, false, false, false, false, false]) rfl ?_
    refine WH.free 1 rfl (by kernel_rfl) (by kernel_rfl) (by kernel_rfl) rfl (fun _ => (fun _ h => h)) (OV.move rfl) rfl (listed' := [true, true, false, false, false, false, false, false, false, false, false]) rfl ?_
    refine WH.free 2 rfl (by kernel_rfl) (by kernel_rfl) (by kernel_rfl) rfl (fun _ => (fun _ h => h)) (OV.nilCheck rfl) rfl (listed' := [true, true, true, false, false, false, false, false, false, false, false]) rfl ?_
    first
    | (refine WH.free 3 rfl (by kernel_rfl) (by kernel_rfl) (by kernel_rfl) rfl (fun _ => (fun _ h => h)) (OV.fieldAddr0 (off := 4) rfl T.u66 rfl) rfl (listed' := [true, true, true, true, false, false, false, false, false, false, false]) rfl ?_)
    | (refine WH.free 3 rfl (by kernel_rfl) (by kernel_rfl) (by kernel_rfl) rfl (fun _ => (fun _ h => h)) (OV.fieldAddr (off := 4) rfl T.u66 rfl) rfl (listed' := [true, true, true, true, false, false, false, false, false, false, false]) rfl ?_)
    first
    | (refine WH.free 4 rfl (by kernel_rfl) (by kernel_rfl) (by kernel_rfl) rfl (fun _ => (fun _ h => h)) (OV.indexArrN rfl rfl T.u57 T.z3 (by omega)) rfl (listed' := [true, true, true, true, true, false, false, false, false, false, false]) rfl ?_)
    | (refine WH.free 4 rfl (by kernel_rfl) (by kernel_rfl) (by kernel_rfl) rfl (fun _ => (fun _ h => h)) (OV.indexArrON rfl rfl T.u57 T.z3 (by omega)) rfl (listed' := [true, true, true, true, true, false, false, false, false, false, false]) rfl ?_)
    | (refine WH.free 4 rfl (by kernel_rfl) (by kernel_rfl) (by kernel_rfl) rfl (fun _ => (fun _ h => h)) (OV.indexArr1 rfl rfl T.u57 T.z3 (by omega)) rfl (listed' := [true, true, true, true, true, false, false, false, false, false, false]) rfl ?_)
    refine WH.take 5 rfl (by kernel_rfl) (by kernel_rfl) (by kernel_rfl) (by kernel_rfl) (fun _ h => h) (OV.load1 (v := .int .i64 (cnt (l1 ++ e :: l2) q : Int)) rfl T.u3 rfl (fun _ hw => cell_own hw (.tail _ (.head _)) (by rw [List.getElem?_toArray]; exact hdC_cnt (by rw [List.getElem?_set_ne hne]; exact counts_get hq)))) rfl (listed' := [true, true, true, true, true, true, false, false, false, false, false]) rfl ?_
    first
    | (refine WH.free 6 rfl (by kernel_rfl) (by kernel_rfl) (by kernel_rfl) rfl (fun _ => (fun _ h => h)) (OV.addI rfl rfl (by omega)) rfl (listed' := [true, true, true, true, true, true, true, false, false, false, false]) rfl ?_)
    | (refine WH.free 6 rfl (by kernel_rfl) (by kernel_rfl) (by kernel_rfl) rfl (fun _ => (fun _ h => h)) (OV.add rfl rfl) rfl (listed' := [true, true, true, true, true, true, true, false, false, false, false]) rfl ?_)
    refine WH.free 7 rfl (by kernel_rfl) (by kernel_rfl) (by kernel_rfl) rfl (fun _ => (fun _ h => h)) (OV.nilCheck rfl) rfl (listed' := [true, true, true, true, true, true, true, true, false, false, false]) rfl ?_
    first
    | (refine WH.free 8 rfl (by kernel_rfl) (by kernel_rfl) (by kernel_rfl) rfl (fun _ => (fun _ h => h)) (OV.fieldAddr0 (off := 4) rfl T.u66 rfl) rfl (listed' := [true, true, true, true, true, true, true, true, true, false, false]) rfl ?_)
    | (refine WH.free 8 rfl (by kernel_rfl) (by kernel_rfl) (by kernel_rfl) rfl (fun _ => (fun _ h => h)) (OV.fieldAddr (off := 4) rfl T.u66 rfl) rfl (listed' := [true, true, true, true, true, true, true, true, true, false, false]) rfl ?_)
    first
    | (refine WH.free 9 rfl (by kernel_rfl) (by kernel_rfl) (by kernel_rfl) rfl (fun _ => (fun _ h => h)) (OV.indexArrN rfl rfl T.u57 T.z3 (by omega)) rfl (listed' := [true, true, true, true, true, true, true, true, true, true, false]) rfl ?_)
    | (refine WH.free 9 rfl (by kernel_rfl) (by kernel_rfl) (by kernel_rfl) rfl (fun _ => (fun _ h => h)) (OV.indexArrON rfl rfl T.u57 T.z3 (by omega)) rfl (listed' := [true, true, true, true, true, true, true, true, true, true, false]) rfl ?_)
    | (refine WH.free 9 rfl (by kernel_rfl) (by kernel_rfl) (by kernel_rfl) rfl (fun _ => (fun _ h => h)) (OV.indexArr1 rfl rfl T.u57 T.z3 (by omega)) rfl (listed' := [true, true, true, true, true, true, true, true, true, true, false]) rfl ?_)
    refine WH.only 10 rfl (by kernel_rfl) (listed' := [true, true, true, true, true, true, true, true, true, true, true]) rfl (fl' := true) rfl ?_
    refine WL.focus perm1 (WL.store1 (o := 4 + q) rfl rfl rfl T.z3 (by rw [hdC_length (by rw [List.length_set]; exact counts_length _)]; omega) ?_)
    rw [hdC_set (by rw [List.length_set, counts_length]; exact hq)]
    refine WL.nil ?_
    refine WX.contD (by kernel_rfl) (fun h => by cases h) ?_
    refine WH.done (by kernel_rfl) ?_
    refine WX.block_normal ?_
    refine WX.next ?_
    refine WC.region ?_
    first
    | (refine WL.val (OV.addI rfl rfl (by omega)) rfl ?_)
    | (refine WL.val (OV.add rfl rfl) rfl ?_)
    refine WL.val (OV.move rfl) rfl ?_
    refine WL.nil ?_
    exact WX.round1 (i + 1) ⟨rfl, rfl, rfl, rfl, rfl, trivial⟩ (fun w' hw => ⟨by omega, by
      have hcm := counts_move l1 l2 e q (by omega) hq (by omega)
      rw [heq] at hcm
      rw [hcm] at hw
      rw [hst]
      refine hw.perm (List.Perm.trans ?_ (perm1 (i := own e.p (.cells (entC { e with part := q }).toArray 80 (0, 0)))))
      refine List.Perm.trans (List.Perm.cons _ (List.Perm.cons _ (flat_ahead entA l1 l2 { e with part := q }).symm)) ?_
      exact perm2.symm⟩) (by show ps.length - (i + 1) < ps.length - i; omega)
  · try simp only [decide_eq_true_eq, decide_eq_false_iff_not, Bool.not_eq_true', Bool.not_eq_false'] at c11
    refine WC.exit ?_
    refine WX.then_exit ?_
    refine WX.then_exit ?_
    refine WX.block_hit ?_
    have hip : i = ps.length := by omega
    subst hip
    rw [List.take_length]
    exact WX.ret0 rfl rfl (fun w hw => ⟨rfl, hw.turned⟩)

end Go.Proofs.YtijplknkpkmblaaGreatDoor
