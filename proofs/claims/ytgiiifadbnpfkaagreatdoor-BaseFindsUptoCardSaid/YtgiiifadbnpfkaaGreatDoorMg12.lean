/- Contracts of functions of the program: what each returns and leaves in memory. Printed by gen.py and walk.py. The library's sorts lie in the loaded program as on the kit's shelf. -/
import Derived.Test.YtgiiifadbnpfkaaGreatDoorMg11
import Derived.Test.YtgiiifadbnpfkaaGreatDoorProg
namespace Go.Proofs.YtgiiifadbnpfkaaGreatDoor
open Go Go.Hw
set_option linter.unusedSimpArgs false
set_option linter.unusedVariables false
/-- Is the part among these parts? -/
def inP (parts : Int) (p : Nat) : Bool := !decide (bits .and .i64 parts (p : Int) = 0)
def lenOf (es : List Ent) (parts : Int) : Nat := (es.filter fun e => inP parts e.part).length
theorem cnt_cons (e : Ent) (es : List Ent) (q : Nat) : cnt (e :: es) q = (if e.part = q then 1 else 0) + cnt es q := by
  unfold cnt
  rw [List.filter_cons]
  split <;> simp_all <;> omega
theorem cnt_append (l m : List Ent) (q : Nat) : cnt (l ++ m) q = cnt l q + cnt m q := by simp [cnt]
theorem cnt_le (es : List Ent) (q : Nat) : cnt es q ≤ es.length := List.length_filter_le _ _
/-- The entries with these pointers come into another part. -/
def mvE (ps : List Nat) (q : Nat) (e : Ent) : Ent := if e.p ∈ ps then { e with part := q } else e
def mv (es : List Ent) (ps : List Nat) (q : Nat) : List Ent := es.map (mvE ps q)
theorem mvE_p (ps : List Nat) (q : Nat) (e : Ent) : (mvE ps q e).p = e.p ∧ (mvE ps q e).row = e.row ∧ (mvE ps q e).a = e.a ∧ (mvE ps q e).c = e.c := by
  unfold mvE; split <;> simp
theorem mv_nil (es : List Ent) (q : Nat) : mv es [] q = es := by
  have : mvE [] q = id := by funext e; simp [mvE]
  rw [mv, this, List.map_id]
theorem nd_inj {α : Type} {l : List α} (h : l.Nodup) {i j : Nat} (hi : i < l.length) (hj : j < l.length) (he : l[i] = l[j]) : i = j := by
  rcases Nat.lt_trichotomy i j with hlt | hlt | hlt
  · exact absurd he ((List.pairwise_iff_getElem.1 h) i j hi hj hlt)
  · exact hlt
  · exact absurd he.symm ((List.pairwise_iff_getElem.1 h) j i hj hi hlt)
theorem ent_eq {es : List Ent} (hn : (es.map (·.p)).Nodup) {x y : Ent} (hx : x ∈ es) (hy : y ∈ es) (h : x.p = y.p) : x = y := by
  obtain ⟨i, hi, rfl⟩ := List.mem_iff_getElem.1 hx
  obtain ⟨j, hj, rfl⟩ := List.mem_iff_getElem.1 hy
  have := nd_inj hn (i := i) (j := j) (by simpa using hi) (by simpa using hj) (by simpa using h)
  subst this
  rfl
theorem row_addr {w : World} {T c m : Nat} {a : Option Addr} {xs : List Value} (h : (row T 1 a m c xs).φ w) (hm : 0 < m) : ∃ b, a = some ⟨b, 0, none⟩ := by
  have h2 : w.ownsRow 0 T 1 (.slice a m c) m xs := h
  rcases h2.2 with ⟨hv, h0⟩ | ⟨g, cc, cur, hv, _⟩
  · omega
  · simp only [Value.slice.injEq] at hv
    exact ⟨g, hv.1⟩
theorem mv_snoc {es : List Ent} {ps : List Nat} {q p : Nat} (hn : (es.map (·.p)).Nodup) (hp : p ∈ es.map (·.p)) (hnp : p ∉ ps) :
    ∃ l1 e l2, mv es ps q = l1 ++ e :: l2 ∧ e.p = p ∧ e ∈ es ∧ mv es (ps ++ [p]) q = l1 ++ { e with part := q } :: l2 := by
  obtain ⟨e, he, rfl⟩ := List.mem_map.1 hp
  obtain ⟨m1, m2, rfl⟩ := split_mem he
  have h1 : ∀ x ∈ m1 ++ m2, x.p ≠ e.p := by
    intro x hx hh
    rw [List.map_append, List.map_cons] at hn
    have hn2 := List.nodup_append.1 hn
    rcases List.mem_append.1 hx with hx | hx
    · exact hn2.2.2 _ (List.mem_map.2 ⟨x, hx, rfl⟩) _ (.head _) hh
    · exact (List.nodup_cons.1 hn2.2.1).1 (List.mem_map.2 ⟨x, hx, hh⟩)
  have key : ∀ l : List Ent, (∀ x ∈ l, x.p ≠ e.p) → mv l (ps ++ [e.p]) q = mv l ps q := by
    intro l hl
    unfold mv
    apply List.map_congr_left
    intro x hx
    unfold mvE
    have : x.p ∈ ps ++ [e.p] ↔ x.p ∈ ps := by simp [hl x hx]
    simp only [this]
  refine ⟨mv m1 ps q, e, mv m2 ps q, ?_, rfl, by simp, ?_⟩
  · simp [mv, mvE, hnp]
  · have k1 := key m1 (fun x hx => h1 x (List.mem_append_left _ hx))
    have k2 := key m2 (fun x hx => h1 x (List.mem_append_right _ hx))
    rw [← k1, ← k2]
    simp [mv, mvE]
theorem counts_move (l1 l2 : List Ent) (e : Ent) (q : Nat) (he : e.part < 8) (hq : q < 8) (hne : e.part ≠ q) :
    ((counts (l1 ++ e :: l2)).set e.part ((cnt (l1 ++ e :: l2) e.part : Int) - 1)).set q ((cnt (l1 ++ e :: l2) q : Int) + 1) = counts (l1 ++ { e with part := q } :: l2) := by
  apply List.ext_getElem?
  intro i
  by_cases hi : i < 8
  · rw [counts_get hi, List.getElem?_set, List.getElem?_set, counts_get hi, cnt_append, cnt_cons, cnt_append, cnt_cons, cnt_append, cnt_cons, cnt_append, cnt_cons]
    simp only [counts_length, List.length_set]
    by_cases h1 : q = i
    · subst h1
      simp [hq, hne]; omega
    · by_cases h2 : e.part = i
      · subst h2
        simp [h1, he, Ne.symm h1]; omega
      · simp [h1, h2]
  · rw [List.getElem?_eq_none (by simp [counts]; omega), List.getElem?_eq_none (by simp [counts]; omega)]
theorem entC_set (e : Ent) (q : Nat) : (entC e).set 1 (.int .i64 (q : Int)) = entC { e with part := q } := rfl
theorem mv_length (es : List Ent) (ps : List Nat) (q : Nat) : (mv es ps q).length = es.length := by simp [mv]

set_option maxRecDepth 10000 in
theorem move_calls (r wd mb ib : Nat) (f n : Value) (la : Option Addr) (lc : Nat) (ps : List Nat) (es : List Ent) (q0 q : Nat) (hq0 : q0 < 8) (hq : q < 8) (hne : q0 ≠ q) (hps : ps.Nodup) (hnd : (es.map (·.p)).Nodup) (hin : ∀ p ∈ ps, ∃ e ∈ es, e.p = p ∧ e.part = q0) (hel : es.length ≤ 1099511627776) (hpl : ps.length ≤ 1099511627776) (w : World) (hA : Holds (hdA r (hdC wd mb f n (counts es) ib) :: psA la lc ps :: es.flatMap entA) w) :
  Calls Tryz.prog 80 #[.pointer (some ⟨r, 0, none⟩), .slice la ps.length lc, .int .i64 (q : Int)] w fun e w' => e = .returned (.tuple #[]) ∧ Turns (hdA r (hdC wd mb f n (counts es) ib) :: psA la lc ps :: es.flatMap entA) (hdA r (hdC wd mb f n (counts (mv es ps q)) ib) :: psA la lc ps :: (mv es ps q).flatMap entA) w w' := by
  refine enterA hA (args := [.pointer (some ⟨r, 0, none⟩), .slice la ps.length lc, .int .i64 (q : Int)]) Tryz.func80 rfl Tryz.ntmps80 rfl rfl ?_
  refine WC.seq ?_
  refine WC.region ?_
  refine WL.val (OV.move rfl) rfl ?_
  first
  | (refine WL.val (OV.lenSlice rfl T.u131) rfl ?_)
  | (refine WL.val (OV.lenStr rfl T.u131) rfl ?_)
  refine WL.val (OV.move rfl) rfl ?_
  refine WL.nil ?_
  refine WX.next ?_
  refine WC.block ?_
  refine WC.loop1 (fun (i : Nat) => [(0, .pointer (some ⟨r, 0, none⟩)), (2, .int .i64 (q : Int)), (8, .slice la ps.length lc), (9, .int .i64 (ps.length : Int)), (10, .int .i64 (i : Int))])
      (fun i w' => i ≤ ps.length ∧ Sat w (DD (hdA r (hdC wd mb f n (counts es) ib) :: psA la lc ps :: es.flatMap entA)) (fun b => b < w.heap.size ∧ ¬ DD (hdA r (hdC wd mb f n (counts es) ib) :: psA la lc ps :: es.flatMap entA) b) w (hdA r (hdC wd mb f n (counts (mv es (ps.take i) q)) ib) :: psA la lc ps :: (mv es (ps.take i) q).flatMap entA) w')
      (fun i => ps.length - i) 0 ⟨rfl, rfl, rfl, rfl, rfl, trivial⟩ (fun w' hw => ⟨by omega, by rw [List.take_zero, mv_nil]; exact hw⟩) ?_
  intro i
  refine WC.pure (fun hi => ?_)
  refine WC.seq ?_
  refine WC.region ?_
  refine WL.val (OV.lss rfl rfl) rfl ?_
  refine WL.nil ?_
  refine WX.next ?_
  refine WC.seq ?_
  refine WC.cond rfl (fun c11 => ?_) (fun c11 => ?_)
  · try simp only [decide_eq_true_eq, decide_eq_false_iff_not, Bool.not_eq_true', Bool.not_eq_false'] at c11
    refine WC.skip ?_
    refine WX.next ?_
    refine WC.seq ?_
    refine WC.block ?_
    refine WC.seq ?_
    refine WC.region ?_
    have hil : i < ps.length := by omega
    have hpi : ps[i]? = some ps[i] := List.getElem?_eq_getElem hil
    have hnt : ps[i] ∉ ps.take i := by
      intro hh
      obtain ⟨j, hj, hje⟩ := List.mem_iff_getElem.1 hh
      rw [List.getElem_take] at hje
      simp only [List.length_take] at hj
      have := nd_inj hps (i := j) (j := i) (by omega) hil hje
      omega
    obtain ⟨e0, he0, hep0, heq0⟩ := hin _ (List.getElem_mem hil)
    obtain ⟨l1, e, l2, hsp, hep, hee, hst⟩ := mv_snoc (q := q) hnd (List.mem_map.2 ⟨e0, he0, hep0⟩) hnt
    have heq : e.part = q0 := by rw [ent_eq hnd hee he0 (hep.trans hep0.symm), heq0]
    have htk : ps.take (i + 1) = ps.take i ++ [ps[i]] := by rw [List.take_add_one, hpi]; rfl
    rw [← htk] at hst
    have hcl : cnt (l1 ++ e :: l2) q0 ≤ es.length := by rw [← hsp, ← mv_length es (ps.take i) q]; exact cnt_le _ _
    have hcl2 : cnt (l1 ++ e :: l2) q ≤ es.length := by rw [← hsp, ← mv_length es (ps.take i) q]; exact cnt_le _ _
    refine WL.weak (S' := Sat w (DD (hdA r (hdC wd mb f n (counts es) ib) :: psA la lc ps :: es.flatMap entA)) (fun b => b < w.heap.size ∧ ¬ DD (hdA r (hdC wd mb f n (counts es) ib) :: psA la lc ps :: es.flatMap entA) b) w (own e.p (.cells (entC e).toArray 146 (0, 0)) :: hdA r (hdC wd mb f n (counts (l1 ++ e :: l2)) ib) :: psA la lc ps :: row 3 1 e.a e.row.length e.c (ints e.row) :: (l1 ++ l2).flatMap entA)) (fun w' hw => ?_) ?_
    · rw [hsp] at hw
      refine hw.perm ?_
      refine List.Perm.trans ?_ (List.Perm.cons _ (List.Perm.cons _ (flat_ahead entA l1 l2 e)))
      exact perm2
    obtain ⟨lb, rfl⟩ := row_addr (hA.φ _ (.tail _ (.head _))) (by omega)
    refine WL.val (OV.indexSliceN rfl rfl T.u131 T.z143 (by omega)) rfl ?_
    refine WL.val (OV.load1 (v := ptr e.p) rfl T.u143 rfl (fun _ hw => by rw [hep]; have := row_cells hw (.tail _ (.tail _ (.head _))) i _ (ptrs_get hpi); rwa [add_off, Nat.zero_add] at this)) rfl ?_
    refine WL.val (OV.assign rfl) rfl ?_
    refine WL.nil ?_
    refine WX.next ?_
    refine WC.seq ?_
    refine WC.selfB [13] (by kernel_rfl) (by kernel_rfl) (m := 14) rfl ?_
    refine WH.free 0 rfl (by kernel_rfl) (by kernel_rfl) (by kernel_rfl) rfl (fun _ => (fun _ h => h)) (OV.move rfl) rfl (listed' := [true, false, false, false, false, false, false, false, false, false, false, false, false, false]) rfl ?_
    refine WH.free 1 rfl (by kernel_rfl) (by kernel_rfl) (by kernel_rfl) rfl (fun _ => (fun _ h => h)) (OV.move rfl) rfl (listed' := [true, true, false, false, false, false, false, false, false, false, false, false, false, false]) rfl ?_
    refine WH.free 2 rfl (by kernel_rfl) (by kernel_rfl) (by kernel_rfl) rfl (fun _ => (fun _ h => h)) (OV.nilCheck rfl) rfl (listed' := [true, true, true, false, false, false, false, false, false, false, false, false, false, false]) rfl ?_
    first
    | (refine WH.free 3 rfl (by kernel_rfl) (by kernel_rfl) (by kernel_rfl) rfl (fun _ => (fun _ h => h)) (OV.fieldAddr0 (off := 1) rfl T.u146 rfl) rfl (listed' := [true, true, true, true, false, false, false, false, false, false, false, false, false, false]) rfl ?_)
    | (refine WH.free 3 rfl (by kernel_rfl) (by kernel_rfl) (by kernel_rfl) rfl (fun _ => (fun _ h => h)) (OV.fieldAddr (off := 1) rfl T.u146 rfl) rfl (listed' := [true, true, true, true, false, false, false, false, false, false, false, false, false, false]) rfl ?_)
    refine WH.take 4 rfl (by kernel_rfl) (by kernel_rfl) (by kernel_rfl) (by kernel_rfl) (fun _ h => h) (OV.load1 (v := .int .i64 (q0 : Int)) rfl T.u3 rfl (fun _ hw => cell_own hw (.head _) (by rw [← heq]; rfl))) rfl (listed' := [true, true, true, true, true, false, false, false, false, false, false, false, false, false]) rfl ?_
    refine WH.free 5 rfl (by kernel_rfl) (by kernel_rfl) (by kernel_rfl) rfl (fun _ => (fun _ h => h)) (OV.nilCheck rfl) rfl (listed' := [true, true, true, true, true, true, false, false, false, false, false, false, false, false]) rfl ?_
    first
    | (refine WH.free 6 rfl (by kernel_rfl) (by kernel_rfl) (by kernel_rfl) rfl (fun _ => (fun _ h => h)) (OV.fieldAddr0 (off := 4) rfl T.u142 rfl) rfl (listed' := [true, true, true, true, true, true, true, false, false, false, false, false, false, false]) rfl ?_)
    | (refine WH.free 6 rfl (by kernel_rfl) (by kernel_rfl) (by kernel_rfl) rfl (fun _ => (fun _ h => h)) (OV.fieldAddr (off := 4) rfl T.u142 rfl) rfl (listed' := [true, true, true, true, true, true, true, false, false, false, false, false, false, false]) rfl ?_)
    first
    | (refine WH.free 7 rfl (by kernel_rfl) (by kernel_rfl) (by kernel_rfl) rfl (fun _ => (fun _ h => h)) (OV.indexArrN rfl rfl T.u132 T.z3 (by omega)) rfl (listed' := [true, true, true, true, true, true, true, true, false, false, false, false, false, false]) rfl ?_)
    | (refine WH.free 7 rfl (by kernel_rfl) (by kernel_rfl) (by kernel_rfl) rfl (fun _ => (fun _ h => h)) (OV.indexArrON rfl rfl T.u132 T.z3 (by omega)) rfl (listed' := [true, true, true, true, true, true, true, true, false, false, false, false, false, false]) rfl ?_)
    | (refine WH.free 7 rfl (by kernel_rfl) (by kernel_rfl) (by kernel_rfl) rfl (fun _ => (fun _ h => h)) (OV.indexArr1 rfl rfl T.u132 T.z3 (by omega)) rfl (listed' := [true, true, true, true, true, true, true, true, false, false, false, false, false, false]) rfl ?_)
    refine WH.take 8 rfl (by kernel_rfl) (by kernel_rfl) (by kernel_rfl) (by kernel_rfl) (fun _ h => h) (OV.load1 (v := .int .i64 (cnt (l1 ++ e :: l2) q0 : Int)) rfl T.u3 rfl (fun _ hw => cell_own hw (.tail _ (.head _)) (by rw [List.getElem?_toArray]; exact hdC_cnt (counts_get hq0)))) rfl (listed' := [true, true, true, true, true, true, true, true, true, false, false, false, false, false]) rfl ?_
    first
    | (refine WH.free 9 rfl (by kernel_rfl) (by kernel_rfl) (by kernel_rfl) rfl (fun _ => (fun _ h => h)) (OV.subN (j := 1) rfl rfl (wrap_i64 (by omega)) (by omega)) rfl (listed' := [true, true, true, true, true, true, true, true, true, true, false, false, false, false]) rfl ?_)
    | (refine WH.free 9 rfl (by kernel_rfl) (by kernel_rfl) (by kernel_rfl) rfl (fun _ => (fun _ h => h)) (OV.subI rfl rfl (by omega)) rfl (listed' := [true, true, true, true, true, true, true, true, true, true, false, false, false, false]) rfl ?_)
    | (refine WH.free 9 rfl (by kernel_rfl) (by kernel_rfl) (by kernel_rfl) rfl (fun _ => (fun _ h => h)) (OV.sub rfl rfl) rfl (listed' := [true, true, true, true, true, true, true, true, true, true, false, false, false, false]) rfl ?_)
    refine WH.free 10 rfl (by kernel_rfl) (by kernel_rfl) (by kernel_rfl) rfl (fun _ => (fun _ h => h)) (OV.nilCheck rfl) rfl (listed' := [true, true, true, true, true, true, true, true, true, true, true, false, false, false]) rfl ?_
    first
    | (refine WH.free 11 rfl (by kernel_rfl) (by kernel_rfl) (by kernel_rfl) rfl (fun _ => (fun _ h => h)) (OV.fieldAddr0 (off := 4) rfl T.u142 rfl) rfl (listed' := [true, true, true, true, true, true, true, true, true, true, true, true, false, false]) rfl ?_)
    | (refine WH.free 11 rfl (by kernel_rfl) (by kernel_rfl) (by kernel_rfl) rfl (fun _ => (fun _ h => h)) (OV.fieldAddr (off := 4) rfl T.u142 rfl) rfl (listed' := [true, true, true, true, true, true, true, true, true, true, true, true, false, false]) rfl ?_)
    first
    | (refine WH.free 12 rfl (by kernel_rfl) (by kernel_rfl) (by kernel_rfl) rfl (fun _ => (fun _ h => h)) (OV.indexArrN rfl rfl T.u132 T.z3 (by omega)) rfl (listed' := [true, true, true, true, true, true, true, true, true, true, true, true, true, false]) rfl ?_)
    | (refine WH.free 12 rfl (by kernel_rfl) (by kernel_rfl) (by kernel_rfl) rfl (fun _ => (fun _ h => h)) (OV.indexArrON rfl rfl T.u132 T.z3 (by omega)) rfl (listed' := [true, true, true, true, true, true, true, true, true, true, true, true, true, false]) rfl ?_)
    | (refine WH.free 12 rfl (by kernel_rfl) (by kernel_rfl) (by kernel_rfl) rfl (fun _ => (fun _ h => h)) (OV.indexArr1 rfl rfl T.u132 T.z3 (by omega)) rfl (listed' := [true, true, true, true, true, true, true, true, true, true, true, true, true, false]) rfl ?_)
    refine WH.only 13 rfl (by kernel_rfl) (listed' := [true, true, true, true, true, true, true, true, true, true, true, true, true, true]) rfl (fl' := true) rfl ?_
    refine WL.focus perm1 (WL.store1 (o := 4 + q0) rfl rfl rfl T.z3 (by rw [hdC_length (counts_length _)]; omega) ?_)
    rw [hdC_set (by rw [counts_length]; exact hq0)]
    refine WL.nil ?_
    refine WX.contD (by kernel_rfl) (fun h => by cases h) ?_
    refine WH.done (by kernel_rfl) ?_
    refine WX.next ?_
    refine WC.seq ?_
    refine WC.region ?_
    refine WL.val (OV.move rfl) rfl ?_
    refine WL.val (OV.move rfl) rfl ?_
    refine WL.val (OV.nilCheck rfl) rfl ?_
    first
    | (refine WL.val (OV.fieldAddr0 (off := 1) rfl T.u146 rfl) rfl ?_)
    | (refine WL.val (OV.fieldAddr (off := 1) rfl T.u146 rfl) rfl ?_)
    refine WL.focus perm1 (WL.store1 (o := 1) rfl rfl rfl T.z3 (by simp [entC]) ?_)
    rw [entC_set]
    refine WL.nil ?_
    refine WX.next ?_
    refine WC.selfB [10] (by kernel_rfl) (by kernel_rfl) (m := 11) rfl ?_
    refine WH.free 0 rfl (by kernel_rfl) (by kernel_rfl) (by kernel_rfl) rfl (fun _ => (fun _ h => h)) (OV.move rfl) rfl (listed' := [true, false, false, false, false, false, false, false, false, false, false]) rfl ?_
    refine WH.free 1 rfl (by kernel_rfl) (by kernel_rfl) (by kernel_rfl) rfl (fun _ => (fun _ h => h)) (OV.move rfl) rfl (listed' := [true, true, false, false, false, false, false, false, false, false, false]) rfl ?_
    refine WH.free 2 rfl (by kernel_rfl) (by kernel_rfl) (by kernel_rfl) rfl (fun _ => (fun _ h => h)) (OV.nilCheck rfl) rfl (listed' := [true, true, true, false, false, false, false, false, false, false, false]) rfl ?_
    first
    | (refine WH.free 3 rfl (by kernel_rfl) (by kernel_rfl) (by kernel_rfl) rfl (fun _ => (fun _ h => h)) (OV.fieldAddr0 (off := 4) rfl T.u142 rfl) rfl (listed' := [true, true, true, true, false, false, false, false, false, false, false]) rfl ?_)
    | (refine WH.free 3 rfl (by kernel_rfl) (by kernel_rfl) (by kernel_rfl) rfl (fun _ => (fun _ h => h)) (OV.fieldAddr (off := 4) rfl T.u142 rfl) rfl (listed' := [true, true, true, true, false, false, false, false, false, false, false]) rfl ?_)
    first
    | (refine WH.free 4 rfl (by kernel_rfl) (by kernel_rfl) (by kernel_rfl) rfl (fun _ => (fun _ h => h)) (OV.indexArrN rfl rfl T.u132 T.z3 (by omega)) rfl (listed' := [true, true, true, true, true, false, false, false, false, false, false]) rfl ?_)
    | (refine WH.free 4 rfl (by kernel_rfl) (by kernel_rfl) (by kernel_rfl) rfl (fun _ => (fun _ h => h)) (OV.indexArrON rfl rfl T.u132 T.z3 (by omega)) rfl (listed' := [true, true, true, true, true, false, false, false, false, false, false]) rfl ?_)
    | (refine WH.free 4 rfl (by kernel_rfl) (by kernel_rfl) (by kernel_rfl) rfl (fun _ => (fun _ h => h)) (OV.indexArr1 rfl rfl T.u132 T.z3 (by omega)) rfl (listed' := [true, true, true, true, true, false, false, false, false, false, false]) rfl ?_)
    refine WH.take 5 rfl (by kernel_rfl) (by kernel_rfl) (by kernel_rfl) (by kernel_rfl) (fun _ h => h) (OV.load1 (v := .int .i64 (cnt (l1 ++ e :: l2) q : Int)) rfl T.u3 rfl (fun _ hw => cell_own hw (.tail _ (.head _)) (by rw [List.getElem?_toArray]; exact hdC_cnt (by rw [List.getElem?_set_ne hne]; exact counts_get hq)))) rfl (listed' := [true, true, true, true, true, true, false, false, false, false, false]) rfl ?_
    first
    | (refine WH.free 6 rfl (by kernel_rfl) (by kernel_rfl) (by kernel_rfl) rfl (fun _ => (fun _ h => h)) (OV.addI rfl rfl (by omega)) rfl (listed' := [true, true, true, true, true, true, true, false, false, false, false]) rfl ?_)
    | (refine WH.free 6 rfl (by kernel_rfl) (by kernel_rfl) (by kernel_rfl) rfl (fun _ => (fun _ h => h)) (OV.add rfl rfl) rfl (listed' := [true, true, true, true, true, true, true, false, false, false, false]) rfl ?_)
    refine WH.free 7 rfl (by kernel_rfl) (by kernel_rfl) (by kernel_rfl) rfl (fun _ => (fun _ h => h)) (OV.nilCheck rfl) rfl (listed' := [true, true, true, true, true, true, true, true, false, false, false]) rfl ?_
    first
    | (refine WH.free 8 rfl (by kernel_rfl) (by kernel_rfl) (by kernel_rfl) rfl (fun _ => (fun _ h => h)) (OV.fieldAddr0 (off := 4) rfl T.u142 rfl) rfl (listed' := [true, true, true, true, true, true, true, true, true, false, false]) rfl ?_)
    | (refine WH.free 8 rfl (by kernel_rfl) (by kernel_rfl) (by kernel_rfl) rfl (fun _ => (fun _ h => h)) (OV.fieldAddr (off := 4) rfl T.u142 rfl) rfl (listed' := [true, true, true, true, true, true, true, true, true, false, false]) rfl ?_)
    first
    | (refine WH.free 9 rfl (by kernel_rfl) (by kernel_rfl) (by kernel_rfl) rfl (fun _ => (fun _ h => h)) (OV.indexArrN rfl rfl T.u132 T.z3 (by omega)) rfl (listed' := [true, true, true, true, true, true, true, true, true, true, false]) rfl ?_)
    | (refine WH.free 9 rfl (by kernel_rfl) (by kernel_rfl) (by kernel_rfl) rfl (fun _ => (fun _ h => h)) (OV.indexArrON rfl rfl T.u132 T.z3 (by omega)) rfl (listed' := [true, true, true, true, true, true, true, true, true, true, false]) rfl ?_)
    | (refine WH.free 9 rfl (by kernel_rfl) (by kernel_rfl) (by kernel_rfl) rfl (fun _ => (fun _ h => h)) (OV.indexArr1 rfl rfl T.u132 T.z3 (by omega)) rfl (listed' := [true, true, true, true, true, true, true, true, true, true, false]) rfl ?_)
    refine WH.only 10 rfl (by kernel_rfl) (listed' := [true, true, true, true, true, true, true, true, true, true, true]) rfl (fl' := true) rfl ?_
    refine WL.focus perm1 (WL.store1 (o := 4 + q) rfl rfl rfl T.z3 (by rw [hdC_length (by rw [List.length_set]; exact counts_length _)]; omega) ?_)
    rw [hdC_set (by rw [List.length_set, counts_length]; exact hq)]
    refine WL.nil ?_
    refine WX.contD (by kernel_rfl) (fun h => by cases h) ?_
    refine WH.done (by kernel_rfl) ?_
    refine WX.block_normal ?_
    refine WX.next ?_
    refine WC.region ?_
    first
    | (refine WL.val (OV.addI rfl rfl (by omega)) rfl ?_)
    | (refine WL.val (OV.add rfl rfl) rfl ?_)
    refine WL.val (OV.move rfl) rfl ?_
    refine WL.nil ?_
    exact WX.round1 (i + 1) ⟨rfl, rfl, rfl, rfl, rfl, trivial⟩ (fun w' hw => ⟨by omega, by
      have hcm := counts_move l1 l2 e q (by omega) hq (by omega)
      rw [heq] at hcm
      rw [hcm] at hw
      rw [hst]
      refine hw.perm (List.Perm.trans ?_ (perm1 (i := own e.p (.cells (entC { e with part := q }).toArray 146 (0, 0)))))
      refine List.Perm.trans (List.Perm.cons _ (List.Perm.cons _ (flat_ahead entA l1 l2 { e with part := q }).symm)) ?_
      exact perm2.symm⟩) (by show ps.length - (i + 1) < ps.length - i; omega)
  · try simp only [decide_eq_true_eq, decide_eq_false_iff_not, Bool.not_eq_true', Bool.not_eq_false'] at c11
    refine WC.exit ?_
    refine WX.then_exit ?_
    refine WX.then_exit ?_
    refine WX.block_hit ?_
    have hip : i = ps.length := by omega
    subst hip
    rw [List.take_length]
    exact WX.ret0 rfl rfl (fun w hw => ⟨rfl, hw.turned⟩)

end Go.Proofs.YtgiiifadbnpfkaaGreatDoor

namespace Go.Proofs.YtgiiifadbnpfkaaGreatDoor
open Go Go.Hw
set_option linter.unusedSimpArgs false
set_option linter.unusedVariables false
def turnE (e : Ent) : Ent := { e with part := if e.part = 4 then 2 else 1 }
def turnG (g : RelG) : RelG := { g with es := g.es.map turnE, fa := g.na, fc := g.nc, fs := g.ns, na := none, nc := 0, ns := [] }
theorem mv_turn {g : RelG} (ok : RelOK g) : mv (mv g.es g.fs 1) g.ns 2 = g.es.map turnE := by
  unfold mv
  rw [List.map_map]
  apply List.map_congr_left
  intro e he
  have hf : e.p ∈ g.fs ↔ e.part = 2 := by
    rw [ok.fs, List.mem_map]
    constructor
    · rintro ⟨x, hx, hxp⟩
      obtain ⟨hx1, hx2⟩ := List.mem_filter.1 hx
      rw [← ent_eq ok.ptrs hx1 he hxp]
      simpa using hx2
    · intro h
      exact ⟨e, List.mem_filter.2 ⟨he, by simpa using h⟩, rfl⟩
  have hn : e.p ∈ g.ns ↔ e.part = 4 := by
    rw [ok.ns, List.mem_map]
    constructor
    · rintro ⟨x, hx, hxp⟩
      obtain ⟨hx1, hx2⟩ := List.mem_filter.1 hx
      rw [← ent_eq ok.ptrs hx1 he hxp]
      simpa using hx2
    · intro h
      exact ⟨e, List.mem_filter.2 ⟨he, by simpa using h⟩, rfl⟩
  simp only [Function.comp_apply, mvE, hf]
  rcases ok.part e he with h | h | h
  · have h2 : ¬ e.part = 2 := by omega
    have h4 : ¬ e.part = 4 := by omega
    rw [if_neg h2, if_neg (fun hh => h4 (hn.1 hh)), turnE, if_neg h4, ← h]
  · have h4 : ¬ e.part = 4 := by omega
    rw [if_pos h]
    simp only
    rw [if_neg (fun hh => h4 (hn.1 hh)), turnE, if_neg h4]
  · have h2 : ¬ e.part = 2 := by omega
    rw [if_neg h2, if_pos (hn.2 h), turnE, if_pos h]
theorem perm_F {H F N X Y : Hw.Item} {E R : List Hw.Item} : (H :: F :: (E ++ (X :: Y :: N :: R))).Perm (H :: X :: Y :: F :: N :: (E ++ R)) := by
  refine List.Perm.cons _ ?_
  refine List.Perm.trans (List.Perm.cons _ ?_) (perm2 (i := F) (j := X) (k := Y))
  exact List.perm_middle.trans (List.Perm.cons _ (List.perm_middle.trans (List.Perm.cons _ List.perm_middle)))
theorem perm_N {H F N X Y : Hw.Item} {E R : List Hw.Item} : (H :: N :: (E ++ (X :: Y :: F :: R))).Perm (H :: X :: Y :: F :: N :: (E ++ R)) := by
  refine List.Perm.cons _ ?_
  refine List.Perm.trans (List.Perm.cons _ ?_) (perm3 (d := N) (a := X) (b := Y) (c := F))
  exact List.perm_middle.trans (List.Perm.cons _ (List.perm_middle.trans (List.Perm.cons _ List.perm_middle)))
theorem pull3 {H N X Y Z : Hw.Item} {E R : List Hw.Item} : (Z :: H :: N :: (E ++ (X :: Y :: R))).Perm (H :: N :: (E ++ (X :: Y :: Z :: R))) := by
  refine (perm2 (i := Z) (j := H) (k := N)).trans (List.Perm.cons _ (List.Perm.cons _ ?_))
  refine (List.perm_middle (l₁ := E) (l₂ := X :: Y :: R)).symm.trans (List.Perm.append_left _ ?_)
  exact perm2
theorem rowsM_turn (es : List Ent) : rowsM (es.map turnE) = rowsM es := by
  unfold rowsM
  rw [List.map_map]
  rfl
theorem filter_nodup {g : RelG} (ok : RelOK g) (q : Nat) : ((g.es.filter fun e => e.part = q).map (·.p)).Nodup :=
  List.Nodup.sublist (List.Sublist.map _ List.filter_sublist) ok.ptrs
theorem mem_fs {g : RelG} (ok : RelOK g) : ∀ p ∈ g.fs, ∃ e ∈ g.es, e.p = p ∧ e.part = 2 := by
  intro p hp
  rw [ok.fs] at hp
  obtain ⟨e, he, rfl⟩ := List.mem_map.1 hp
  obtain ⟨h1, h2⟩ := List.mem_filter.1 he
  exact ⟨e, h1, rfl, by simpa using h2⟩
theorem mem_ns {g : RelG} (ok : RelOK g) : ∀ p ∈ g.ns, ∃ e ∈ mv g.es g.fs 1, e.p = p ∧ e.part = 4 := by
  intro p hp
  rw [ok.ns] at hp
  obtain ⟨e, he, rfl⟩ := List.mem_map.1 hp
  obtain ⟨h1, h2⟩ := List.mem_filter.1 he
  have h4 : e.part = 4 := by simpa using h2
  refine ⟨mvE g.fs 1 e, List.mem_map.2 ⟨e, h1, rfl⟩, (mvE_p _ _ _).1, ?_⟩
  unfold mvE
  rw [if_neg]
  · exact h4
  · intro hh
    obtain ⟨x, hx, hxp, hx2⟩ := mem_fs ok _ hh
    rw [ent_eq ok.ptrs hx h1 hxp] at hx2
    omega
theorem mv_ptrs (es : List Ent) (ps : List Nat) (q : Nat) : (mv es ps q).map (·.p) = es.map (·.p) := by
  unfold mv
  rw [List.map_map]
  apply List.map_congr_left
  intro e _
  exact (mvE_p ps q e).1
theorem fs_len {g : RelG} (ok : RelOK g) : g.fs.length ≤ 1099511627776 := by
  rw [ok.fs, List.length_map]; exact Nat.le_trans (List.length_filter_le _ _) ok.el
theorem ns_len {g : RelG} (ok : RelOK g) : g.ns.length ≤ g.es.length := by
  rw [ok.ns, List.length_map]; exact List.length_filter_le _ _
theorem turn_part {e : Ent} (h : e.part = 1 ∨ e.part = 2 ∨ e.part = 4) : (turnE e).part = 2 ↔ e.part = 4 := by
  unfold turnE; simp only; split <;> omega
theorem turnG_ok {g : RelG} (ok : RelOK g) : RelOK (turnG g) where
  wid e he := by
    obtain ⟨x, hx, rfl⟩ := List.mem_map.1 he
    exact ok.wid x hx
  i64 e he := by
    obtain ⟨x, hx, rfl⟩ := List.mem_map.1 he
    exact ok.i64 x hx
  part e he := by
    obtain ⟨x, hx, rfl⟩ := List.mem_map.1 he
    unfold turnE; simp only; split <;> omega
  rows := by
    show ((g.es.map turnE).map (·.row)).Nodup
    rw [List.map_map]
    exact ok.rows
  ptrs := by
    show ((g.es.map turnE).map (·.p)).Nodup
    rw [List.map_map]
    exact ok.ptrs
  fs := by
    show g.ns = ((g.es.map turnE).filter fun e => e.part = 2).map (·.p)
    rw [ok.ns, List.filter_map, List.map_map]
    have : g.es.filter ((fun e => decide (e.part = 2)) ∘ turnE) = g.es.filter fun e => e.part = 4 := by
      apply List.filter_congr
      intro e he
      have := turn_part (ok.part e he)
      simp only [Function.comp_apply]
      exact decide_eq_decide.2 this
    rw [this]
    rfl
  ns := by
    show ([] : List Nat) = ((g.es.map turnE).filter fun e => e.part = 4).map (·.p)
    rw [List.filter_eq_nil_iff.2]
    · rfl
    · intro e he
      obtain ⟨x, hx, rfl⟩ := List.mem_map.1 he
      unfold turnE; simp only; split <;> simp
  cols := ok.cols
  ixc := ok.ixc
  ixk := ok.ixk
  ix x hx := by
    have h := ok.ix x hx
    refine ⟨h.keys, fun k => ?_⟩
    have h2 := h.ps k
    show (psOf x.gs k).Perm (((g.es.map turnE).filter fun e => ixKey x.col e = k).map (·.p))
    rw [List.filter_map, List.map_map]
    exact h2
  coll := ok.coll
  wl := ok.wl
  rl e he := by
    obtain ⟨x, hx, rfl⟩ := List.mem_map.1 he
    exact ok.rl x hx
  el := by show (g.es.map turnE).length ≤ _; rw [List.length_map]; exact ok.el

set_option maxRecDepth 10000 in
theorem turn_calls (g : RelG) (ok : RelOK g) (w : World) (hA : Holds (relA g) w) : Calls Tryz.prog 59 #[.pointer (some ⟨g.r, 0, none⟩)] w fun e w' => e = .returned (.int .i64 (g.ns.length : Int)) ∧ Turns (relA g) (relA (turnG g)) w w' := by
  refine enterA hA (args := [.pointer (some ⟨g.r, 0, none⟩)]) Tryz.func59 rfl Tryz.ntmps59 rfl rfl ?_
  refine WC.seq ?_
  refine WC.region ?_
  refine WL.val (OV.assign rfl) rfl ?_
  refine WL.nil ?_
  refine WX.next ?_
  refine WC.seq ?_
  refine WC.region ?_
  refine WL.val (OV.move rfl) rfl ?_
  refine WL.val (OV.move rfl) rfl ?_
  refine WL.val (OV.nilCheck rfl) rfl ?_
  first
  | (refine WL.val (OV.fieldAddr0 (off := 2) rfl T.u142 rfl) rfl ?_)
  | (refine WL.val (OV.fieldAddr (off := 2) rfl T.u142 rfl) rfl ?_)
  first
  | (refine WL.val (OV.load1 rfl T.u131 rfl (fun _ hw => cell_own hw (.head _) rfl)) rfl ?_)
  refine WL.focus perm_F (WL.callTA (ι := Unit) (vv := fun _ => .tuple #[]) (pp := fun _ => True) (hdA g.r (hdC g.width g.mb (fslice g) (nslice g) (counts g.es) g.ib) :: psA g.fa g.fc g.fs :: g.es.flatMap entA) (AA := fun _ => hdA g.r (hdC g.width g.mb (fslice g) (nslice g) (counts (mv g.es g.fs 1)) g.ib) :: psA g.fa g.fc g.fs :: (mv g.es g.fs 1).flatMap entA) rfl (by kernel_rfl) rfl rfl (fun w' hw' hH => (move_calls g.r g.width g.mb g.ib (fslice g) (nslice g) g.fa g.fc g.fs g.es 2 1 (by decide) (by decide) (by decide) (by rw [ok.fs]; exact filter_nodup ok 2) ok.ptrs (mem_fs ok) ok.el (fs_len ok) w' hH).mono (fun e w'' ⟨h1, h2⟩ => ⟨(), h1, trivial, h2⟩)) ?_)
  rintro _ _
  refine WL.nil ?_
  refine WX.next ?_
  refine WC.seq ?_
  refine WC.region ?_
  refine WL.val (OV.move rfl) rfl ?_
  refine WL.val (OV.move rfl) rfl ?_
  refine WL.val (OV.nilCheck rfl) rfl ?_
  first
  | (refine WL.val (OV.fieldAddr0 (off := 3) rfl T.u142 rfl) rfl ?_)
  | (refine WL.val (OV.fieldAddr (off := 3) rfl T.u142 rfl) rfl ?_)
  first
  | (refine WL.val (OV.load1 rfl T.u131 rfl (fun _ hw => cell_own hw (.head _) rfl)) rfl ?_)
  refine WL.focus (perm_N.trans perm_F.symm) (WL.callTA (ι := Unit) (vv := fun _ => .tuple #[]) (pp := fun _ => True) (hdA g.r (hdC g.width g.mb (fslice g) (nslice g) (counts (mv g.es g.fs 1)) g.ib) :: psA g.na g.nc g.ns :: (mv g.es g.fs 1).flatMap entA) (AA := fun _ => hdA g.r (hdC g.width g.mb (fslice g) (nslice g) (counts (mv (mv g.es g.fs 1) g.ns 2)) g.ib) :: psA g.na g.nc g.ns :: (mv (mv g.es g.fs 1) g.ns 2).flatMap entA) rfl (by kernel_rfl) rfl rfl (fun w' hw' hH => (move_calls g.r g.width g.mb g.ib (fslice g) (nslice g) g.na g.nc g.ns (mv g.es g.fs 1) 4 2 (by decide) (by decide) (by decide) (by rw [ok.ns]; exact filter_nodup ok 4) (by rw [mv_ptrs]; exact ok.ptrs) (mem_ns ok) (by rw [mv_length]; exact ok.el) (by have := ns_len ok; have := ok.el; omega) w' hH).mono (fun e w'' ⟨h1, h2⟩ => ⟨(), h1, trivial, h2⟩)) ?_)
  rintro _ _
  rw [mv_turn ok]
  refine WL.nil ?_
  refine WX.next ?_
  refine WC.seq ?_
  refine WC.region ?_
  refine WL.val (OV.move rfl) rfl ?_
  refine WL.val (OV.move rfl) rfl ?_
  refine WL.val (OV.move rfl) rfl ?_
  refine WL.val (OV.nilCheck rfl) rfl ?_
  first
  | (refine WL.val (OV.fieldAddr0 (off := 3) rfl T.u142 rfl) rfl ?_)
  | (refine WL.val (OV.fieldAddr (off := 3) rfl T.u142 rfl) rfl ?_)
  first
  | (refine WL.val (OV.load1 rfl T.u131 rfl (fun _ hw => cell_own hw (.head _) rfl)) rfl ?_)
  refine WL.val (OV.nilCheck rfl) rfl ?_
  first
  | (refine WL.val (OV.fieldAddr0 (off := 2) rfl T.u142 rfl) rfl ?_)
  | (refine WL.val (OV.fieldAddr (off := 2) rfl T.u142 rfl) rfl ?_)
  refine WL.store1 (o := 2) rfl rfl rfl T.z131 (by rw [hdC_length (counts_length _)]; omega) ?_
  refine WL.val (OV.nilCheck rfl) rfl ?_
  first
  | (refine WL.val (OV.fieldAddr0 (off := 3) rfl T.u142 rfl) rfl ?_)
  | (refine WL.val (OV.fieldAddr (off := 3) rfl T.u142 rfl) rfl ?_)
  refine WL.store1 (o := 3) rfl rfl rfl T.z131 (by rw [List.length_set, hdC_length (counts_length _)]; omega) ?_
  refine WL.nil ?_
  refine WX.next ?_
  refine WC.seq ?_
  refine WC.region ?_
  refine WL.val (OV.move rfl) rfl ?_
  refine WL.val (OV.nilCheck rfl) rfl ?_
  first
  | (refine WL.val (OV.fieldAddr0 (off := 2) rfl T.u142 rfl) rfl ?_)
  | (refine WL.val (OV.fieldAddr (off := 2) rfl T.u142 rfl) rfl ?_)
  first
  | (refine WL.val (OV.load1 rfl T.u131 rfl (fun _ hw => cell_own hw (.head _) rfl)) rfl ?_)
  first
  | (refine WL.val (OV.lenSlice rfl T.u131) rfl ?_)
  | (refine WL.val (OV.lenStr rfl T.u131) rfl ?_)
  refine WL.val (OV.assign rfl) rfl ?_
  refine WL.nil ?_
  refine WX.next ?_
  refine WC.ret ?_
  exact WX.ret1 rfl rfl rfl (fun w' hw => ⟨rfl, by
    have h1 := ((hw.perm pull3).drop).rowNil 143 1
    refine (h1.perm (ow' := relA (turnG g)) ?_).turned
    unfold relA
    simp only [turnG, rowsM_turn]
    exact (pull3.trans perm_F).symm⟩)

end Go.Proofs.YtgiiifadbnpfkaaGreatDoor

namespace Go.Proofs.YtgiiifadbnpfkaaGreatDoor
open Go Go.Hw
set_option linter.unusedSimpArgs false
set_option linter.unusedVariables false
/-- An entry comes into the group of its key. -/
def gadd : List Grp → ByteArray → Nat → Option Addr → Nat → List Grp
  | [], k, p, a, c => [⟨k, a, c, [p]⟩]
  | g :: gs, k, p, a, c => if k = g.k then ⟨k, a, c, g.ps ++ [p]⟩ :: gs else g :: gadd gs k p a c
theorem psOf_nil (k : ByteArray) : psOf [] k = [] := rfl
theorem psOf_cons (g : Grp) (gs : List Grp) (k : ByteArray) : psOf (g :: gs) k = if k = g.k then g.ps else psOf gs k := by
  unfold psOf
  rw [List.find?_cons]
  by_cases h : k = g.k
  · subst h; simp
  · simp [h, Ne.symm h]
theorem psOf_gadd (gs : List Grp) (k : ByteArray) (p : Nat) (a : Option Addr) (c : Nat) (k' : ByteArray) : psOf (gadd gs k p a c) k' = psOf gs k' ++ if k' = k then [p] else [] := by
  induction gs with
  | nil => simp only [gadd, psOf_cons, psOf_nil]; split <;> simp_all
  | cons g gs ih =>
    unfold gadd
    by_cases h : k = g.k
    · rw [if_pos h, psOf_cons, psOf_cons]
      by_cases h2 : k' = k
      · simp [h2, ← h]
      · simp [h2, ← h]
    · rw [if_neg h, psOf_cons, psOf_cons, ih]
      by_cases h2 : k' = g.k
      · subst h2
        simp [Ne.symm h]
      · simp [h2]
theorem gadd_keys (gs : List Grp) (k : ByteArray) (p : Nat) (a : Option Addr) (c : Nat) : ∀ x ∈ (gadd gs k p a c).map (·.k), x = k ∨ x ∈ gs.map (·.k) := by
  induction gs with
  | nil => intro x hx; simpa [gadd] using hx
  | cons g gs ih =>
    intro x hx
    unfold gadd at hx
    split at hx
    · simp only [List.map_cons, List.mem_cons] at hx ⊢
      rcases hx with h | h
      · exact .inl h
      · exact .inr (.inr h)
    · simp only [List.map_cons, List.mem_cons] at hx ⊢
      rcases hx with h | h
      · exact .inr (.inl h)
      · rcases ih x h with h | h
        · exact .inl h
        · exact .inr (.inr h)
theorem gadd_nodup {gs : List Grp} (k : ByteArray) (p : Nat) (a : Option Addr) (c : Nat) (h : (gs.map (·.k)).Nodup) : ((gadd gs k p a c).map (·.k)).Nodup := by
  induction gs with
  | nil => simp [gadd]
  | cons g gs ih =>
    rw [List.map_cons, List.nodup_cons] at h
    unfold gadd
    split
    · rename_i hk
      rw [List.map_cons, List.nodup_cons]
      exact ⟨by simpa [hk] using h.1, h.2⟩
    · rename_i hk
      rw [List.map_cons, List.nodup_cons]
      refine ⟨fun hh => ?_, ih h.2⟩
      rcases gadd_keys gs k p a c _ hh with h1 | h1
      · exact hk h1.symm
      · exact h.1 h1
theorem grpM_gadd (gs : List Grp) (k : ByteArray) (p : Nat) (a : Option Addr) (c : Nat) : ups (grpM gs) k (.slice a ((psOf gs k).length + 1) c) = grpM (gadd gs k p a c) := by
  induction gs with
  | nil => rfl
  | cons g gs ih =>
    rw [psOf_cons]
    unfold gadd
    rw [grpM, List.map_cons]
    unfold ups
    by_cases h : k = g.k
    · simp only [if_pos h]
      rw [grpM, List.map_cons]
      simp
    · simp only [if_neg h]
      rw [grpM, List.map_cons]
      congr 1
/-- The row of a key's group, be there one or not. -/
theorem grp_focus (gs : List Grp) (k : ByteArray) : ∃ a0 c0 L, (got (grpM gs) k).getD (.slice none 0 0) = .slice a0 (psOf gs k).length c0 ∧
    ((gs.flatMap grpA).Perm (row 143 1 a0 (psOf gs k).length c0 (ptrs (psOf gs k)) :: L.flatMap grpA) ∨ (a0 = none ∧ c0 = 0 ∧ psOf gs k = [] ∧ L = gs)) ∧
    ∀ a c p, ((gadd gs k p a c).flatMap grpA).Perm (row 143 1 a ((psOf gs k).length + 1) c (ptrs (psOf gs k ++ [p])) :: L.flatMap grpA) := by
  induction gs with
  | nil => exact ⟨none, 0, [], rfl, .inr ⟨rfl, rfl, rfl, rfl⟩, fun a c p => by simp [gadd, grpA, psOf_nil]⟩
  | cons g gs ih =>
    by_cases h : k = g.k
    · refine ⟨g.a, g.c, gs, ?_, .inl ?_, fun a c p => ?_⟩
      · rw [psOf_cons, if_pos h, got, grpM, List.map_cons]
        unfold spot
        rw [if_pos h]
        rfl
      · rw [psOf_cons, if_pos h]
        simp [grpA]
      · rw [psOf_cons, if_pos h]
        unfold gadd
        rw [if_pos h]
        simp [grpA]
    · obtain ⟨a0, c0, L, h1, h2, h3⟩ := ih
      rw [psOf_cons, if_neg h]
      refine ⟨a0, c0, g :: L, ?_, ?_, fun a c p => ?_⟩
      · rw [← h1, got, got, grpM, List.map_cons]
        conv => lhs; unfold spot
        rw [if_neg h, spot_shift, Option.map_map]
        rfl
      · rcases h2 with h2 | ⟨e1, e2, e3, e4⟩
        · left
          rw [List.flatMap_cons, List.flatMap_cons]
          exact (List.Perm.append_left _ h2).trans List.perm_middle
        · right
          exact ⟨e1, e2, e3, by rw [e4]⟩
      · unfold gadd
        rw [if_neg h, List.flatMap_cons, List.flatMap_cons]
        exact (List.Perm.append_left _ (h3 a c p)).trans List.perm_middle
theorem T.apP : appB Tryz.prog 131 143 1 8 = true := by kernel_rfl
set_option maxRecDepth 10000 in
theorem idxAdd_calls (x : Idx) (e : Ent) (hc : ∀ k ∈ x.col.l, 0 ≤ k ∧ k < e.row.length) (hi : i64s e.row) (h1 : e.row.length ≤ 1099511627776) (h2 : x.col.l.length ≤ 1099511627776) (h3 : (psOf x.gs (ixKey x.col e)).length ≤ 1099511627776) (w : World) (hA : Holds (idxA x ++ (entA e ++ colA x.col)) w) :
  Calls Tryz.prog 79 #[ptr x.p, ptr e.p] w fun en w' => en = .returned (.tuple #[]) ∧ ∃ a c, Turns (idxA x ++ (entA e ++ colA x.col)) (idxA { x with gs := gadd x.gs (ixKey x.col e) e.p a c } ++ (entA e ++ colA x.col)) w w' := by
  refine enterA hA (args := [ptr x.p, ptr e.p]) Tryz.func79 rfl Tryz.ntmps79 rfl rfl ?_
  refine WC.seq ?_
  refine WC.weak (S' := Sat w (DD (idxA x ++ (entA e ++ colA x.col))) (fun b => b < w.heap.size ∧ ¬ DD (idxA x ++ (entA e ++ colA x.col)) b) w (own x.p (.cells (idxC x).toArray 166 (0, 0)) :: own x.mb (mapK Value.string (grpM x.gs)) :: own e.p (.cells (entC e).toArray 146 (0, 0)) :: row 3 1 e.a e.row.length e.c (ints e.row) :: row 3 1 x.col.a x.col.l.length x.col.c (ints x.col.l) :: x.gs.flatMap grpA)) (fun w' hw => hw.perm (List.Perm.cons _ (List.Perm.cons _ (List.perm_append_comm (l₁ := [_, _, _]))))) ?_
  refine WC.selfB [8] (by kernel_rfl) (by kernel_rfl) (m := 11) rfl ?_
  refine WH.free 0 rfl (by kernel_rfl) (by kernel_rfl) (by kernel_rfl) rfl (fun _ => (fun _ h => h)) (OV.move rfl) rfl (listed' := [true, false, false, false, false, false, false, false, false, false, false]) rfl ?_
  refine WH.free 1 rfl (by kernel_rfl) (by kernel_rfl) (by kernel_rfl) rfl (fun _ => (fun _ h => h)) (OV.nilCheck rfl) rfl (listed' := [true, true, false, false, false, false, false, false, false, false, false]) rfl ?_
  first
  | (refine WH.free 2 rfl (by kernel_rfl) (by kernel_rfl) (by kernel_rfl) rfl (fun _ => (fun _ h => h)) (OV.fieldAddr0 (off := 0) rfl T.u146 rfl) rfl (listed' := [true, true, true, false, false, false, false, false, false, false, false]) rfl ?_)
  | (refine WH.free 2 rfl (by kernel_rfl) (by kernel_rfl) (by kernel_rfl) rfl (fun _ => (fun _ h => h)) (OV.fieldAddr (off := 0) rfl T.u146 rfl) rfl (listed' := [true, true, true, false, false, false, false, false, false, false, false]) rfl ?_)
  refine WH.take 3 rfl (by kernel_rfl) (by kernel_rfl) (by kernel_rfl) (by kernel_rfl) (fun _ h => h) (OV.load1 (v := .slice e.a e.row.length e.c) rfl T.u74 rfl (fun _ hw => (cell_at (hw.it (own e.p (.cells (entC e).toArray 146 (0, 0))) (by first | exact .head _ | exact .tail _ (.head _) | exact .tail _ (.tail _ (.head _)) | exact .tail _ (.tail _ (.tail _ (.head _))) | exact .tail _ (.tail _ (.tail _ (.tail _ (.head _)))))) (o := 0) rfl).1)) rfl (listed' := [true, true, true, true, false, false, false, false, false, false, false]) rfl ?_
  refine WH.free 4 rfl (by kernel_rfl) (by kernel_rfl) (by kernel_rfl) rfl (fun _ => (fun _ h => h)) (OV.move rfl) rfl (listed' := [true, true, true, true, true, false, false, false, false, false, false]) rfl ?_
  refine WH.free 5 rfl (by kernel_rfl) (by kernel_rfl) (by kernel_rfl) rfl (fun _ => (fun _ h => h)) (OV.nilCheck rfl) rfl (listed' := [true, true, true, true, true, true, false, false, false, false, false]) rfl ?_
  first
  | (refine WH.free 6 rfl (by kernel_rfl) (by kernel_rfl) (by kernel_rfl) rfl (fun _ => (fun _ h => h)) (OV.fieldAddr0 (off := 0) rfl T.u166 rfl) rfl (listed' := [true, true, true, true, true, true, true, false, false, false, false]) rfl ?_)
  | (refine WH.free 6 rfl (by kernel_rfl) (by kernel_rfl) (by kernel_rfl) rfl (fun _ => (fun _ h => h)) (OV.fieldAddr (off := 0) rfl T.u166 rfl) rfl (listed' := [true, true, true, true, true, true, true, false, false, false, false]) rfl ?_)
  refine WH.take 7 rfl (by kernel_rfl) (by kernel_rfl) (by kernel_rfl) (by kernel_rfl) (fun _ h => h) (OV.load1 (v := .slice x.col.a x.col.l.length x.col.c) rfl T.u74 rfl (fun _ hw => (cell_at (hw.it (own x.p (.cells (idxC x).toArray 166 (0, 0))) (by first | exact .head _ | exact .tail _ (.head _) | exact .tail _ (.tail _ (.head _)) | exact .tail _ (.tail _ (.tail _ (.head _))) | exact .tail _ (.tail _ (.tail _ (.tail _ (.head _)))))) (o := 0) rfl).1)) rfl (listed' := [true, true, true, true, true, true, true, true, false, false, false]) rfl ?_
  refine WH.only 8 rfl (by kernel_rfl) (listed' := [true, true, true, true, true, true, true, true, true, false, false]) rfl (fl' := true) rfl ?_
  refine WL.callF (ι := Option Addr × Nat) (vv := fun q => .slice q.1 x.col.l.length q.2) (pp := fun _ => True) (it := fun q => row 3 1 q.1 x.col.l.length q.2 (ints (pickL e.row x.col.l))) (by kernel_rfl) rfl rfl (fun w' hw => (picked_calls e.row x.col.l e.a e.row.length e.c x.col.a x.col.l.length x.col.c hc h2 h1 w' (RI.of_row hw (by first | exact .head _ | exact .tail _ (.head _) | exact .tail _ (.tail _ (.head _)) | exact .tail _ (.tail _ (.tail _ (.head _))) | exact .tail _ (.tail _ (.tail _ (.tail _ (.head _)))))) (RI.of_row hw (by first | exact .head _ | exact .tail _ (.head _) | exact .tail _ (.tail _ (.head _)) | exact .tail _ (.tail _ (.tail _ (.head _))) | exact .tail _ (.tail _ (.tail _ (.tail _ (.head _))))))).mono (fun en w'' ⟨a', c', q1, q2, q3⟩ => ⟨(a', c'), q1, trivial, q2, q3⟩)) ?_
  rintro ⟨ap, cp⟩ _
  refine WL.nil ?_
  refine WX.contD (by kernel_rfl) (fun h => by cases h) ?_
  refine WH.only 9 rfl (by kernel_rfl) (listed' := [true, true, true, true, true, true, true, true, true, true, false]) rfl (fl' := true) rfl ?_
  refine WL.call0 (by kernel_rfl) rfl rfl (fun w' hw => key_calls (pickL e.row x.col.l) ap x.col.l.length cp (pickL_i64s hi hc) h2 w' (by have := RI.of_row (l := pickL e.row x.col.l) (a := ap) (c := cp) hw (by rw [pickL_length]; exact .head _); rwa [pickL_length] at this)) ?_
  refine WL.nil ?_
  refine WX.contD (by kernel_rfl) (fun h => by cases h) ?_
  refine WH.free 10 rfl (by kernel_rfl) (by kernel_rfl) (by kernel_rfl) rfl (fun h => by cases h) (OV.assign rfl) rfl (listed' := [true, true, true, true, true, true, true, true, true, true, true]) rfl ?_
  refine WH.done (by kernel_rfl) ?_
  refine WX.next ?_
  obtain ⟨a0, c0, L, hgot, hfoc, hnew⟩ := grp_focus x.gs (ixKey x.col e)
  refine WC.weak (S' := Sat w (DD (idxA x ++ (entA e ++ colA x.col))) (fun b => b < w.heap.size ∧ ¬ DD (idxA x ++ (entA e ++ colA x.col)) b) w (row 143 1 a0 (psOf x.gs (ixKey x.col e)).length c0 (ptrs (psOf x.gs (ixKey x.col e))) :: own x.p (.cells (idxC x).toArray 166 (0, 0)) :: own x.mb (mapK Value.string (grpM x.gs)) :: own e.p (.cells (entC e).toArray 146 (0, 0)) :: row 3 1 e.a e.row.length e.c (ints e.row) :: row 3 1 x.col.a x.col.l.length x.col.c (ints x.col.l) :: L.flatMap grpA)) (fun w' hw => ?_) ?_
  · have h1 := hw.drop
    rcases hfoc with hp | ⟨rfl, rfl, e3, rfl⟩
    · exact h1.perm (List.Perm.trans (perm5 (g := row 143 1 a0 (psOf x.gs (ixKey x.col e)).length c0 (ptrs (psOf x.gs (ixKey x.col e))))) (List.Perm.cons _ (List.Perm.cons _ (List.Perm.cons _ (List.Perm.cons _ (List.Perm.cons _ hp.symm))))))
    · rw [e3]
      exact h1.rowNil 143 1
  refine WC.drawn (fun w' => w'.heap[x.p]? = some (.cells (idxC x).toArray 166 (0, 0)) ∧ w'.heap[x.mb]? = some (mapK Value.string (grpM x.gs))) [14] (by kernel_rfl) (by kernel_rfl) (m := 15) rfl ?_
  refine WH.free 0 rfl (by kernel_rfl) (by kernel_rfl) (by kernel_rfl) rfl (fun _ => (fun _ hw => ⟨hw.it (own x.p (.cells (idxC x).toArray 166 (0, 0))) (by first | exact .head _ | exact .tail _ (.head _) | exact .tail _ (.tail _ (.head _)) | exact .tail _ (.tail _ (.tail _ (.head _))) | exact .tail _ (.tail _ (.tail _ (.tail _ (.head _))))), hw.it (own x.mb (mapK Value.string (grpM x.gs))) (by first | exact .head _ | exact .tail _ (.head _) | exact .tail _ (.tail _ (.head _)) | exact .tail _ (.tail _ (.tail _ (.head _))) | exact .tail _ (.tail _ (.tail _ (.tail _ (.head _)))))⟩)) (OV.move rfl) rfl (listed' := [true, false, false, false, false, false, false, false, false, false, false, false, false, false, false]) rfl ?_
  refine WH.free 1 rfl (by kernel_rfl) (by kernel_rfl) (by kernel_rfl) rfl (fun _ => (fun _ hw => ⟨hw.it (own x.p (.cells (idxC x).toArray 166 (0, 0))) (by first | exact .head _ | exact .tail _ (.head _) | exact .tail _ (.tail _ (.head _)) | exact .tail _ (.tail _ (.tail _ (.head _))) | exact .tail _ (.tail _ (.tail _ (.tail _ (.head _))))), hw.it (own x.mb (mapK Value.string (grpM x.gs))) (by first | exact .head _ | exact .tail _ (.head _) | exact .tail _ (.tail _ (.head _)) | exact .tail _ (.tail _ (.tail _ (.head _))) | exact .tail _ (.tail _ (.tail _ (.tail _ (.head _)))))⟩)) (OV.nilCheck rfl) rfl (listed' := [true, true, false, false, false, false, false, false, false, false, false, false, false, false, false]) rfl ?_
  first
  | (refine WH.free 2 rfl (by kernel_rfl) (by kernel_rfl) (by kernel_rfl) rfl (fun _ => (fun _ hw => ⟨hw.it (own x.p (.cells (idxC x).toArray 166 (0, 0))) (by first | exact .head _ | exact .tail _ (.head _) | exact .tail _ (.tail _ (.head _)) | exact .tail _ (.tail _ (.tail _ (.head _))) | exact .tail _ (.tail _ (.tail _ (.tail _ (.head _))))), hw.it (own x.mb (mapK Value.string (grpM x.gs))) (by first | exact .head _ | exact .tail _ (.head _) | exact .tail _ (.tail _ (.head _)) | exact .tail _ (.tail _ (.tail _ (.head _))) | exact .tail _ (.tail _ (.tail _ (.tail _ (.head _)))))⟩)) (OV.fieldAddr0 (off := 1) rfl T.u166 rfl) rfl (listed' := [true, true, true, false, false, false, false, false, false, false, false, false, false, false, false]) rfl ?_)
  | (refine WH.free 2 rfl (by kernel_rfl) (by kernel_rfl) (by kernel_rfl) rfl (fun _ => (fun _ hw => ⟨hw.it (own x.p (.cells (idxC x).toArray 166 (0, 0))) (by first | exact .head _ | exact .tail _ (.head _) | exact .tail _ (.tail _ (.head _)) | exact .tail _ (.tail _ (.tail _ (.head _))) | exact .tail _ (.tail _ (.tail _ (.tail _ (.head _))))), hw.it (own x.mb (mapK Value.string (grpM x.gs))) (by first | exact .head _ | exact .tail _ (.head _) | exact .tail _ (.tail _ (.head _)) | exact .tail _ (.tail _ (.tail _ (.head _))) | exact .tail _ (.tail _ (.tail _ (.tail _ (.head _)))))⟩)) (OV.fieldAddr (off := 1) rfl T.u166 rfl) rfl (listed' := [true, true, true, false, false, false, false, false, false, false, false, false, false, false, false]) rfl ?_)
  refine WH.take 3 rfl (by kernel_rfl) (by kernel_rfl) (by kernel_rfl) (by kernel_rfl) (fun _ hw => ⟨hw.it (own x.p (.cells (idxC x).toArray 166 (0, 0))) (by first | exact .head _ | exact .tail _ (.head _) | exact .tail _ (.tail _ (.head _)) | exact .tail _ (.tail _ (.tail _ (.head _))) | exact .tail _ (.tail _ (.tail _ (.tail _ (.head _))))), hw.it (own x.mb (mapK Value.string (grpM x.gs))) (by first | exact .head _ | exact .tail _ (.head _) | exact .tail _ (.tail _ (.head _)) | exact .tail _ (.tail _ (.tail _ (.head _))) | exact .tail _ (.tail _ (.tail _ (.tail _ (.head _)))))⟩) (OV.load1 (v := .map (some x.mb)) rfl T.u164 rfl (fun _ hw => (cell_at hw.1 (o := 1) rfl).1)) rfl (listed' := [true, true, true, true, false, false, false, false, false, false, false, false, false, false, false]) rfl ?_
  refine WH.free 4 rfl (by kernel_rfl) (by kernel_rfl) (by kernel_rfl) rfl (fun _ => (fun _ hw => ⟨hw.it (own x.p (.cells (idxC x).toArray 166 (0, 0))) (by first | exact .head _ | exact .tail _ (.head _) | exact .tail _ (.tail _ (.head _)) | exact .tail _ (.tail _ (.tail _ (.head _))) | exact .tail _ (.tail _ (.tail _ (.tail _ (.head _))))), hw.it (own x.mb (mapK Value.string (grpM x.gs))) (by first | exact .head _ | exact .tail _ (.head _) | exact .tail _ (.tail _ (.head _)) | exact .tail _ (.tail _ (.tail _ (.head _))) | exact .tail _ (.tail _ (.tail _ (.tail _ (.head _)))))⟩)) (OV.move rfl) rfl (listed' := [true, true, true, true, true, false, false, false, false, false, false, false, false, false, false]) rfl ?_
  refine WH.free 5 rfl (by kernel_rfl) (by kernel_rfl) (by kernel_rfl) rfl (fun _ => (fun _ hw => ⟨hw.it (own x.p (.cells (idxC x).toArray 166 (0, 0))) (by first | exact .head _ | exact .tail _ (.head _) | exact .tail _ (.tail _ (.head _)) | exact .tail _ (.tail _ (.tail _ (.head _))) | exact .tail _ (.tail _ (.tail _ (.tail _ (.head _))))), hw.it (own x.mb (mapK Value.string (grpM x.gs))) (by first | exact .head _ | exact .tail _ (.head _) | exact .tail _ (.tail _ (.head _)) | exact .tail _ (.tail _ (.tail _ (.head _))) | exact .tail _ (.tail _ (.tail _ (.tail _ (.head _)))))⟩)) (OV.move rfl) rfl (listed' := [true, true, true, true, true, true, false, false, false, false, false, false, false, false, false]) rfl ?_
  refine WH.free 6 rfl (by kernel_rfl) (by kernel_rfl) (by kernel_rfl) rfl (fun _ => (fun _ hw => ⟨hw.it (own x.p (.cells (idxC x).toArray 166 (0, 0))) (by first | exact .head _ | exact .tail _ (.head _) | exact .tail _ (.tail _ (.head _)) | exact .tail _ (.tail _ (.tail _ (.head _))) | exact .tail _ (.tail _ (.tail _ (.tail _ (.head _))))), hw.it (own x.mb (mapK Value.string (grpM x.gs))) (by first | exact .head _ | exact .tail _ (.head _) | exact .tail _ (.tail _ (.head _)) | exact .tail _ (.tail _ (.tail _ (.head _))) | exact .tail _ (.tail _ (.tail _ (.tail _ (.head _)))))⟩)) (OV.nilCheck rfl) rfl (listed' := [true, true, true, true, true, true, true, false, false, false, false, false, false, false, false]) rfl ?_
  first
  | (refine WH.free 7 rfl (by kernel_rfl) (by kernel_rfl) (by kernel_rfl) rfl (fun _ => (fun _ hw => ⟨hw.it (own x.p (.cells (idxC x).toArray 166 (0, 0))) (by first | exact .head _ | exact .tail _ (.head _) | exact .tail _ (.tail _ (.head _)) | exact .tail _ (.tail _ (.tail _ (.head _))) | exact .tail _ (.tail _ (.tail _ (.tail _ (.head _))))), hw.it (own x.mb (mapK Value.string (grpM x.gs))) (by first | exact .head _ | exact .tail _ (.head _) | exact .tail _ (.tail _ (.head _)) | exact .tail _ (.tail _ (.tail _ (.head _))) | exact .tail _ (.tail _ (.tail _ (.tail _ (.head _)))))⟩)) (OV.fieldAddr0 (off := 1) rfl T.u166 rfl) rfl (listed' := [true, true, true, true, true, true, true, true, false, false, false, false, false, false, false]) rfl ?_)
  | (refine WH.free 7 rfl (by kernel_rfl) (by kernel_rfl) (by kernel_rfl) rfl (fun _ => (fun _ hw => ⟨hw.it (own x.p (.cells (idxC x).toArray 166 (0, 0))) (by first | exact .head _ | exact .tail _ (.head _) | exact .tail _ (.tail _ (.head _)) | exact .tail _ (.tail _ (.tail _ (.head _))) | exact .tail _ (.tail _ (.tail _ (.tail _ (.head _))))), hw.it (own x.mb (mapK Value.string (grpM x.gs))) (by first | exact .head _ | exact .tail _ (.head _) | exact .tail _ (.tail _ (.head _)) | exact .tail _ (.tail _ (.tail _ (.head _))) | exact .tail _ (.tail _ (.tail _ (.tail _ (.head _)))))⟩)) (OV.fieldAddr (off := 1) rfl T.u166 rfl) rfl (listed' := [true, true, true, true, true, true, true, true, false, false, false, false, false, false, false]) rfl ?_)
  refine WH.take 8 rfl (by kernel_rfl) (by kernel_rfl) (by kernel_rfl) (by kernel_rfl) (fun _ hw => ⟨hw.it (own x.p (.cells (idxC x).toArray 166 (0, 0))) (by first | exact .head _ | exact .tail _ (.head _) | exact .tail _ (.tail _ (.head _)) | exact .tail _ (.tail _ (.tail _ (.head _))) | exact .tail _ (.tail _ (.tail _ (.tail _ (.head _))))), hw.it (own x.mb (mapK Value.string (grpM x.gs))) (by first | exact .head _ | exact .tail _ (.head _) | exact .tail _ (.tail _ (.head _)) | exact .tail _ (.tail _ (.tail _ (.head _))) | exact .tail _ (.tail _ (.tail _ (.tail _ (.head _)))))⟩) (OV.load1 (v := .map (some x.mb)) rfl T.u164 rfl (fun _ hw => (cell_at hw.1 (o := 1) rfl).1)) rfl (listed' := [true, true, true, true, true, true, true, true, true, false, false, false, false, false, false]) rfl ?_
  refine WH.free 9 rfl (by kernel_rfl) (by kernel_rfl) (by kernel_rfl) rfl (fun _ => (fun _ hw => ⟨hw.it (own x.p (.cells (idxC x).toArray 166 (0, 0))) (by first | exact .head _ | exact .tail _ (.head _) | exact .tail _ (.tail _ (.head _)) | exact .tail _ (.tail _ (.tail _ (.head _))) | exact .tail _ (.tail _ (.tail _ (.tail _ (.head _))))), hw.it (own x.mb (mapK Value.string (grpM x.gs))) (by first | exact .head _ | exact .tail _ (.head _) | exact .tail _ (.tail _ (.head _)) | exact .tail _ (.tail _ (.tail _ (.head _))) | exact .tail _ (.tail _ (.tail _ (.tail _ (.head _)))))⟩)) (OV.move rfl) rfl (listed' := [true, true, true, true, true, true, true, true, true, true, false, false, false, false, false]) rfl ?_
  refine WH.take 10 rfl (by kernel_rfl) (by kernel_rfl) (by kernel_rfl) (by kernel_rfl) (fun _ hw => ⟨hw.it (own x.p (.cells (idxC x).toArray 166 (0, 0))) (by first | exact .head _ | exact .tail _ (.head _) | exact .tail _ (.tail _ (.head _)) | exact .tail _ (.tail _ (.tail _ (.head _))) | exact .tail _ (.tail _ (.tail _ (.tail _ (.head _))))), hw.it (own x.mb (mapK Value.string (grpM x.gs))) (by first | exact .head _ | exact .tail _ (.head _) | exact .tail _ (.tail _ (.head _)) | exact .tail _ (.tail _ (.tail _ (.head _))) | exact .tail _ (.tail _ (.tail _ (.tail _ (.head _)))))⟩) ((OV.lookup (KeyLaw.str T.u9) T.u164 (by kernel_rfl) rfl rfl (fun _ hw => hw.2)).cast hgot) rfl (listed' := [true, true, true, true, true, true, true, true, true, true, true, false, false, false, false]) rfl ?_
  refine WH.free 11 rfl (by kernel_rfl) (by kernel_rfl) (by kernel_rfl) rfl (fun _ => (fun _ hw => ⟨hw.it (own x.p (.cells (idxC x).toArray 166 (0, 0))) (by first | exact .head _ | exact .tail _ (.head _) | exact .tail _ (.tail _ (.head _)) | exact .tail _ (.tail _ (.tail _ (.head _))) | exact .tail _ (.tail _ (.tail _ (.tail _ (.head _))))), hw.it (own x.mb (mapK Value.string (grpM x.gs))) (by first | exact .head _ | exact .tail _ (.head _) | exact .tail _ (.tail _ (.head _)) | exact .tail _ (.tail _ (.tail _ (.head _))) | exact .tail _ (.tail _ (.tail _ (.tail _ (.head _)))))⟩)) (OV.move rfl) rfl (listed' := [true, true, true, true, true, true, true, true, true, true, true, true, false, false, false]) rfl ?_
  refine WH.only 12 rfl (by kernel_rfl) (listed' := [true, true, true, true, true, true, true, true, true, true, true, true, true, false, false]) rfl (fl' := false) rfl ?_
  refine WL.buildSlice1 T.u131 T.z143 T.zr143 rfl rfl rfl ?_
  intro b27
  refine WL.nil ?_
  refine WX.contD (by kernel_rfl) (fun _ => (fun _ hw => ⟨hw.it (own x.p (.cells (idxC x).toArray 166 (0, 0))) (by first | exact .head _ | exact .tail _ (.head _) | exact .tail _ (.tail _ (.head _)) | exact .tail _ (.tail _ (.tail _ (.head _))) | exact .tail _ (.tail _ (.tail _ (.tail _ (.head _))))), hw.it (own x.mb (mapK Value.string (grpM x.gs))) (by first | exact .head _ | exact .tail _ (.head _) | exact .tail _ (.tail _ (.head _)) | exact .tail _ (.tail _ (.tail _ (.head _))) | exact .tail _ (.tail _ (.tail _ (.tail _ (.head _)))))⟩)) ?_
  refine WH.only 13 rfl (by kernel_rfl) (listed' := [true, true, true, true, true, true, true, true, true, true, true, true, true, true, false]) rfl (fl' := false) rfl ?_
  refine WL.focus perm1 (WL.append (news := [ptr e.p]) rfl rfl T.apP (fun _ _ => own_src (.tail _ (.head _)) rfl) (by simp [Value.oneCell', ptr]) ⟨by omega, by unfold maxLen; omega⟩ rfl ?_)
  intro a28 c28
  refine WL.nil ?_
  refine WX.contD (by kernel_rfl) (fun _ => (fun _ hw => ⟨hw.it (own x.p (.cells (idxC x).toArray 166 (0, 0))) (by first | exact .head _ | exact .tail _ (.head _) | exact .tail _ (.tail _ (.head _)) | exact .tail _ (.tail _ (.tail _ (.head _))) | exact .tail _ (.tail _ (.tail _ (.tail _ (.head _))))), hw.it (own x.mb (mapK Value.string (grpM x.gs))) (by first | exact .head _ | exact .tail _ (.head _) | exact .tail _ (.tail _ (.head _)) | exact .tail _ (.tail _ (.tail _ (.head _))) | exact .tail _ (.tail _ (.tail _ (.tail _ (.head _)))))⟩)) ?_
  refine WH.only 14 rfl (by kernel_rfl) (listed' := [true, true, true, true, true, true, true, true, true, true, true, true, true, true, true]) rfl (fl' := true) rfl ?_
  first
  | (refine WL.mapUpdate (KeyLaw.str T.u9) T.u164 rfl rfl rfl ?_)
  | (refine WL.focus perm1 (WL.mapUpdate (KeyLaw.str T.u9) T.u164 rfl rfl rfl ?_))
  | (refine WL.focus perm2 (WL.mapUpdate (KeyLaw.str T.u9) T.u164 rfl rfl rfl ?_))
  | (refine WL.focus perm3 (WL.mapUpdate (KeyLaw.str T.u9) T.u164 rfl rfl rfl ?_))
  refine WL.nil ?_
  refine WX.contD (by kernel_rfl) (fun h => by cases h) ?_
  refine WH.done (by kernel_rfl) ?_
  exact WX.ret0 rfl rfl (fun w' hw => ⟨rfl, a28, c28, by
    have h1 := (hw.perm perm2).drop
    have hl : ptrs (psOf x.gs (ixKey x.col e)) ++ [ptr e.p] = ptrs (psOf x.gs (ixKey x.col e) ++ [e.p]) := by simp [ptrs]
    have hkk : keyB (pickL e.row x.col.l) = ixKey x.col e := rfl
    rw [hl, hkk, grpM_gadd] at h1
    refine (h1.perm (ow' := idxA { x with gs := gadd x.gs (ixKey x.col e) e.p a28 c28 } ++ (entA e ++ colA x.col)) ?_).turned
    refine (List.Perm.cons _ (List.Perm.cons _ (List.Perm.append_right _ (hnew a28 c28 e.p)))).trans ?_
    exact perm2.trans (List.Perm.cons _ (List.Perm.cons _ (List.Perm.cons _ (List.perm_append_comm (l₂ := [_, _, _])))))⟩)

end Go.Proofs.YtgiiifadbnpfkaaGreatDoor

namespace Go.Proofs.YtgiiifadbnpfkaaGreatDoor
open Go Go.Hw
set_option linter.unusedSimpArgs false
set_option linter.unusedVariables false
/-- The rows and their parts. -/
def rp (g : RelG) : List (List Int × Nat) := g.es.map fun e => (e.row, e.part)
def addRP (width : Nat) (L : List (List Int × Nat)) (l : List Int) : List (List Int × Nat) := if l.length = width ∧ l ∉ L.map (·.1) then L ++ [(l, 4)] else L
def addV (width : Nat) (L : List (List Int × Nat)) (l : List Int) : Bool := decide (l.length = width ∧ l ∉ L.map (·.1))
def addE (width : Nat) (l : List Int) : Int := if l.length = width then 0 else 71
/-- What was there is there still: the rows (in some part) and the columns. -/
structure RelLe (g g' : RelG) : Prop where
  r : g'.r = g.r
  width : g'.width = g.width
  es : ∀ e ∈ g.es, ∃ e' ∈ g'.es, e'.p = e.p ∧ e'.a = e.a ∧ e'.c = e.c ∧ e'.row = e.row
  cols : ∀ c ∈ g.cols, c ∈ g'.cols
theorem RelLe.refl (g : RelG) : RelLe g g := ⟨rfl, rfl, fun e he => ⟨e, he, rfl, rfl, rfl, rfl⟩, fun _ h => h⟩
theorem RelLe.trans {a b c : RelG} (h : RelLe a b) (k : RelLe b c) : RelLe a c :=
  ⟨k.r.trans h.r, k.width.trans h.width, fun e he => by
    obtain ⟨e1, h1, a1, a2, a3, a4⟩ := h.es e he
    obtain ⟨e2, h2, b1, b2, b3, b4⟩ := k.es e1 h1
    exact ⟨e2, h2, b1.trans a1, b2.trans a2, b3.trans a3, b4.trans a4⟩, fun x hx => k.cols x (h.cols x hx)⟩
theorem mem_rp {g : RelG} {l : List Int} : l ∈ (rp g).map (·.1) ↔ ∃ e ∈ g.es, e.row = l := by
  simp [rp]
def addG (g : RelG) (e : Ent) (na : Option Addr) (nc : Nat) (ix : List Idx) : RelG := { g with es := g.es ++ [e], na := na, nc := nc, ns := g.ns ++ [e.p], ix := ix }
structure Ixs (e : Ent) (ix : List Idx) (vis : List Nat) (ix' : List Idx) : Prop where
  len : ix'.length = ix.length
  at_ : ∀ j x, ix[j]? = some x → ∃ x', ix'[j]? = some x' ∧ x'.p = x.p ∧ x'.mb = x.mb ∧ x'.col = x.col ∧ (j ∈ vis → ∃ a c, x'.gs = gadd x.gs (ixKey x.col e) e.p a c) ∧ (j ∉ vis → x'.gs = x.gs)
theorem Ixs.start (e : Ent) (ix : List Idx) : Ixs e ix [] ix := ⟨rfl, fun j x hx => ⟨x, hx, rfl, rfl, rfl, fun h => (by cases h), fun _ => rfl⟩⟩
theorem Ixs.ixM {e : Ent} {ix ix' : List Idx} {vis : List Nat} (h : Ixs e ix vis ix') : ixM ix' = ixM ix := by
  apply List.ext_getElem?
  intro j
  show ((ix'.map fun x => (keyB x.col.l, ptr x.p)))[j]? = ((ix.map fun x => (keyB x.col.l, ptr x.p)))[j]?
  simp only [List.getElem?_map]
  cases hx : ix[j]? with
  | none =>
    have : ix'[j]? = none := by
      rw [List.getElem?_eq_none_iff] at hx ⊢
      rw [h.len]; exact hx
    rw [this]
  | some x =>
    obtain ⟨x', h1, h2, _, h4, _⟩ := h.at_ j x hx
    rw [h1]
    simp [h2, h4]
theorem Ixs.step {e : Ent} {ix m1 m2 : List Idx} {x : Idx} {vis : List Nat} {a : Option Addr} {c : Nat} (h : Ixs e ix vis (m1 ++ x :: m2)) (hv : m1.length ∉ vis) : Ixs e ix (vis ++ [m1.length]) (m1 ++ { x with gs := gadd x.gs (ixKey x.col e) e.p a c } :: m2) := by
  refine ⟨by rw [← h.len]; simp, fun j y hy => ?_⟩
  obtain ⟨x', h1, h2, h3, h4, h5, h6⟩ := h.at_ j y hy
  by_cases hj : j = m1.length
  · subst hj
    rw [List.getElem?_append_right (Nat.le_refl _), Nat.sub_self] at h1
    simp only [List.getElem?_cons_zero, Option.some.injEq] at h1
    subst h1
    refine ⟨{ x with gs := gadd x.gs (ixKey x.col e) e.p a c }, by rw [List.getElem?_append_right (Nat.le_refl _), Nat.sub_self]; rfl, h2, h3, h4, fun _ => ⟨a, c, ?_⟩, fun hh => absurd (by simp) hh⟩
    have h7 := h6 hv
    show gadd x.gs (ixKey x.col e) e.p a c = _
    rw [h7, h4]
  · refine ⟨x', ?_, h2, h3, h4, fun hm => h5 ?_, fun hm => h6 ?_⟩
    · rcases Nat.lt_or_ge j m1.length with hlt | hge
      · rw [List.getElem?_append_left hlt] at h1 ⊢; exact h1
      · rw [List.getElem?_append_right hge] at h1 ⊢
        obtain ⟨k, hk⟩ : ∃ k, j - m1.length = k + 1 := ⟨j - m1.length - 1, by omega⟩
        rw [hk] at h1 ⊢
        simpa using h1
    · simpa [hj] using hm
    · simpa [hj] using hm
def unseen (n : Nat) (vis : List Nat) : Nat := ((List.range n).filter fun j => !vis.contains j).length
theorem unseen_lt {n i : Nat} {vis : List Nat} (hi : i < n) (hv : i ∉ vis) : unseen n (vis ++ [i]) < unseen n vis := by
  unfold unseen
  have hsub : ((List.range n).filter fun j => !(vis ++ [i]).contains j) = ((List.range n).filter fun j => !vis.contains j).filter fun j => j ≠ i := by
    rw [List.filter_filter]
    apply List.filter_congr
    intro j _
    by_cases h : j = i <;> simp [h]
  rw [hsub]
  refine List.length_filter_lt_length_iff_exists.2 ⟨i, ?_, by simp⟩
  rw [List.mem_filter]
  exact ⟨List.mem_range.2 hi, by simpa using hv⟩
theorem perm_deep {X : List Hw.Item} {es : List Ent} {e : Ent} {k1 k2 : List Col} {c : Col} {m1 m2 : List Idx} {x : Idx} :
    ((idxA x ++ (entA e ++ colA c)) ++ (X ++ tailA es (k1 ++ k2) (m1 ++ m2))).Perm (X ++ tailA (es ++ [e]) (k1 ++ c :: k2) (m1 ++ x :: m2)) := by
  have h1 : (idxA x ++ (entA e ++ (colA c ++ tailA es (k1 ++ k2) (m1 ++ m2)))).Perm (tailA (es ++ [e]) (k1 ++ c :: k2) (m1 ++ x :: m2)) := by
    refine List.Perm.trans ?_ (tail_idx _ _ m1 m2 x)
    refine List.Perm.append_left _ ?_
    have h2 := tail_ent es [] e (k1 ++ c :: k2) (m1 ++ m2)
    rw [List.append_nil] at h2
    refine List.Perm.trans (List.Perm.append_left _ ?_) h2
    exact tail_col es k1 k2 c _
  refine List.Perm.trans ?_ (List.Perm.append_left _ h1)
  have e1 : (idxA x ++ (entA e ++ colA c)) ++ (X ++ tailA es (k1 ++ k2) (m1 ++ m2)) = (idxA x ++ (entA e ++ colA c)) ++ (X ++ tailA es (k1 ++ k2) (m1 ++ m2)) := rfl
  have e2 : idxA x ++ (entA e ++ (colA c ++ tailA es (k1 ++ k2) (m1 ++ m2))) = (idxA x ++ (entA e ++ colA c)) ++ tailA es (k1 ++ k2) (m1 ++ m2) := by simp
  rw [e2]
  exact app_swap
theorem counts_snoc (es : List Ent) (e : Ent) (h : e.part = 4) : (counts es).set 4 ((cnt es 4 : Int) + 1) = counts (es ++ [e]) := by
  apply List.ext_getElem?
  intro i
  by_cases hi : i < 8
  · rw [counts_get hi, List.getElem?_set, counts_get hi, cnt_append]
    simp only [counts_length]
    by_cases h1 : 4 = i
    · subst h1
      simp [cnt, h]
    · simp [h1, cnt, h]
  · rw [List.getElem?_eq_none (by simp [counts]; omega), List.getElem?_eq_none (by simp [counts]; omega)]
theorem rowsM_snoc {es : List Ent} {e : Ent} (h : ∀ x ∈ es, x.row ≠ e.row) : ups (rowsM es) (keyB e.row) (ptr e.p) = rowsM (es ++ [e]) := by
  rw [ups_new]
  · simp [rowsM]
  · intro q hq
    obtain ⟨x, hx, rfl⟩ := List.mem_map.1 hq
    exact fun hh => h x hx (keyB_inj hh)
theorem addG_ok {g : RelG} (ok : RelOK g) {e : Ent} {na : Option Addr} {nc : Nat} {ix : List Idx} (hw : e.row.length = g.width) (hi : i64s e.row) (hp : e.part = 4) (hr : ∀ x ∈ g.es, x.row ≠ e.row) (hpp : ∀ x ∈ g.es, x.p ≠ e.p) (hl : g.es.length < 1099511627776) (hl2 : e.row.length ≤ 1099511627776)
    {vis : List Nat} (hix : Ixs e g.ix vis ix) (hall : ∀ i, i < g.ix.length → i ∈ vis) : RelOK (addG g e na nc ix) where
  wid x hx := by
    rcases List.mem_append.1 hx with h | h
    · exact ok.wid x h
    · simp only [List.mem_singleton] at h; subst h; exact hw
  i64 x hx := by
    rcases List.mem_append.1 hx with h | h
    · exact ok.i64 x h
    · simp only [List.mem_singleton] at h; subst h; exact hi
  part x hx := by
    rcases List.mem_append.1 hx with h | h
    · exact ok.part x h
    · simp only [List.mem_singleton] at h; subst h; exact .inr (.inr hp)
  rows := by
    show ((g.es ++ [e]).map (·.row)).Nodup
    rw [List.map_append, List.nodup_append]
    refine ⟨ok.rows, by simp, fun a ha b hb => ?_⟩
    obtain ⟨x, hx, rfl⟩ := List.mem_map.1 ha
    simp only [List.map_cons, List.map_nil, List.mem_singleton] at hb
    subst hb
    exact hr x hx
  ptrs := by
    show ((g.es ++ [e]).map (·.p)).Nodup
    rw [List.map_append, List.nodup_append]
    refine ⟨ok.ptrs, by simp, fun a ha b hb => ?_⟩
    obtain ⟨x, hx, rfl⟩ := List.mem_map.1 ha
    simp only [List.map_cons, List.map_nil, List.mem_singleton] at hb
    subst hb
    exact hpp x hx
  fs := by
    show g.fs = ((g.es ++ [e]).filter fun e => e.part = 2).map (·.p)
    rw [List.filter_append, ok.fs]
    simp [hp]
  ns := by
    show g.ns ++ [e.p] = ((g.es ++ [e]).filter fun e => e.part = 4).map (·.p)
    rw [List.filter_append, ok.ns]
    simp [hp]
  cols := ok.cols
  ixc x hx := by
    obtain ⟨j, hj⟩ := List.mem_iff_getElem?.1 hx
    have hjl : j < g.ix.length := by have h2 := (List.getElem?_eq_some_iff.1 hj).1; rw [← hix.len]; exact h2
    obtain ⟨x', h1, _, _, h4, _⟩ := hix.at_ j _ (List.getElem?_eq_getElem hjl)
    have : x' = x := Option.some.inj (h1.symm.trans hj)
    subst this
    rw [h4]
    exact ok.ixc _ (List.getElem_mem hjl)
  ixk := by
    have e1 : ix.map (fun x => x.col.l) = g.ix.map fun x => x.col.l := by
      apply List.ext_getElem?
      intro j
      simp only [List.getElem?_map]
      cases hx : g.ix[j]? with
      | none =>
        have : ix[j]? = none := by
          rw [List.getElem?_eq_none_iff] at hx ⊢
          rw [hix.len]; exact hx
        rw [this]
      | some x =>
        obtain ⟨x', h1, _, _, h4, _⟩ := hix.at_ j x hx
        rw [h1]
        simp [h4]
    show (ix.map fun x => x.col.l).Nodup
    rw [e1]
    exact ok.ixk
  ix x hx := by
    obtain ⟨j, hj⟩ := List.mem_iff_getElem?.1 hx
    have hjl : j < g.ix.length := by have h2 := (List.getElem?_eq_some_iff.1 hj).1; rw [← hix.len]; exact h2
    obtain ⟨x', h1, h2, h3, h4, h5, _⟩ := hix.at_ j _ (List.getElem?_eq_getElem hjl)
    have : x' = x := Option.some.inj (h1.symm.trans hj)
    subst this
    obtain ⟨a, c, hgs⟩ := h5 (hall j hjl)
    have hok := ok.ix _ (List.getElem_mem hjl)
    refine ⟨by rw [hgs]; exact gadd_nodup _ _ _ _ hok.keys, fun k => ?_⟩
    rw [hgs, psOf_gadd, h4]
    show List.Perm _ (((g.es ++ [e]).filter fun e => ixKey (g.ix[j]).col e = k).map (·.p))
    rw [List.filter_append, List.map_append]
    refine List.Perm.append (hok.ps k) ?_
    by_cases hk : k = ixKey (g.ix[j]).col e
    · simp [hk]
    · simp [hk, Ne.symm hk]
  coll := ok.coll
  wl := ok.wl
  rl x hx := by
    rcases List.mem_append.1 hx with h | h
    · exact ok.rl x h
    · simp only [List.mem_singleton] at h; subst h; exact hl2
  el := by show (g.es ++ [e]).length ≤ _; rw [List.length_append, List.length_singleton]; omega

theorem ents_nodup {es : List Ent} (h : (es.flatMap entA).Pairwise Disj) : (es.map (·.p)).Nodup := by
  induction es with
  | nil => simp
  | cons e es ih =>
    rw [List.flatMap_cons] at h
    obtain ⟨h1, h2, h3⟩ := List.pairwise_append.1 h
    rw [List.map_cons, List.nodup_cons]
    refine ⟨fun hm => ?_, ih h2⟩
    obtain ⟨x, hx, hxp⟩ := List.mem_map.1 hm
    have hd := h3 _ (.head _) (own x.p (.cells (entC x).toArray 146 (0, 0))) (List.mem_flatMap.2 ⟨x, hx, .head _⟩)
    exact hd e.p rfl hxp.symm
theorem tail_nodup {w0 ws w : World} {M I : Nat → Prop} {X : List Hw.Item} {es : List Ent} {cols : List Col} {ix : List Idx} (h : Sat w0 M I ws (X ++ tailA es cols ix) w) : (es.map (·.p)).Nodup :=
  ents_nodup (List.pairwise_append.1 (List.pairwise_append.1 h.disj).2.1).1
theorem ixM_get {ix : List Idx} {i : Nat} {q : ByteArray × Value} (h : (ixM ix)[i]? = some q) : ∃ x, ix[i]? = some x ∧ q = (keyB x.col.l, ptr x.p) := by
  simp only [ixM, List.getElem?_map] at h
  obtain ⟨x, h1, h2⟩ := Option.map_eq_some_iff.1 h
  exact ⟨x, h1, h2.symm⟩
theorem ixM_length (ix : List Idx) : (ixM ix).length = ix.length := by simp [ixM]
theorem perm_add5 {A B C D x y : Hw.Item} {T : List Hw.Item} : (A :: B :: C :: D :: x :: y :: T).Perm (D :: A :: x :: y :: B :: C :: T) := by
  refine (perm3 (d := D) (a := A) (b := B) (c := C)).symm.trans (List.Perm.cons _ (List.Perm.cons _ ?_))
  exact app_swap (A := [x, y]) (B := [B, C]) (C := T)

end Go.Proofs.YtgiiifadbnpfkaaGreatDoor

namespace Go.Proofs.YtgiiifadbnpfkaaGreatDoor
open Go Go.Hw
set_option linter.unusedSimpArgs false
set_option linter.unusedVariables false
set_option maxRecDepth 10000 in
theorem add_calls (g : RelG) (ok : RelOK g) (l : List Int) (a : Option Addr) (m c : Nat) (hi : i64s l) (hm : m ≤ 1099511627776) (hlen : g.es.length < 1099511627776) (w : World) (hr : RI w a m l) (hne : ∀ b, a = some b → 0 < m → ¬ DD (relA g) b.block) (hA : Holds (relA g) w) :
  Calls Tryz.prog 58 #[ptr g.r, .slice a m c] w fun e w' => e = .returned (.tuple #[.bool (addV g.width (rp g) l), .int .i64 (addE g.width l)]) ∧ ∃ g', rp g' = addRP g.width (rp g) l ∧ RelOK g' ∧ RelLe g g' ∧ Turns (relA g) (relA g') w w' := by
  refine enterA hA (args := [ptr g.r, .slice a m c]) Tryz.func58 rfl Tryz.ntmps58 rfl rfl ?_
  refine WC.seq ?_
  refine WC.region ?_
  refine WL.val (OV.assign rfl) rfl ?_
  refine WL.val (OV.assign rfl) rfl ?_
  refine WL.nil ?_
  refine WX.next ?_
  refine WC.seq ?_
  refine WC.seq ?_
  refine WC.region ?_
  refine WL.val (OV.move rfl) rfl ?_
  first
  | (refine WL.val (OV.lenSlice rfl T.u74) rfl ?_)
  | (refine WL.val (OV.lenStr rfl T.u74) rfl ?_)
  refine WL.val (OV.move rfl) rfl ?_
  refine WL.val (OV.nilCheck rfl) rfl ?_
  first
  | (refine WL.val (OV.fieldAddr0 (off := 0) rfl T.u142 rfl) rfl ?_)
  | (refine WL.val (OV.fieldAddr (off := 0) rfl T.u142 rfl) rfl ?_)
  first
  | (refine WL.val (OV.load1 rfl T.u3 rfl (fun _ hw => cell_own hw (.head _) rfl)) rfl ?_)
  | (refine WL.val (OV.load1 rfl T.u3 rfl (fun _ hw => cell_own hw (.tail _ (.head _)) rfl)) rfl ?_)
  | (refine WL.val (OV.load1 rfl T.u3 rfl (fun _ hw => cell_own hw (.tail _ (.tail _ (.head _))) rfl)) rfl ?_)
  | (refine WL.val (OV.load1 rfl T.u3 rfl (fun _ hw => cell_own hw (.tail _ (.tail _ (.tail _ (.head _)))) rfl)) rfl ?_)
  | (refine WL.val (OV.load1 rfl T.u3 rfl (fun _ hw => cell_own hw (.tail _ (.tail _ (.tail _ (.tail _ (.head _))))) rfl)) rfl ?_)
  refine WL.val (OV.neq rfl rfl) rfl ?_
  refine WL.nil ?_
  refine WX.next ?_
  refine WC.cond rfl (fun c16 => ?_) (fun c16 => ?_)
  · try simp only [decide_eq_true_eq, decide_eq_false_iff_not, Bool.not_eq_true', Bool.not_eq_false'] at c16
    refine WC.seq ?_
    refine WC.region ?_
    refine WL.val (OV.assign rfl) rfl ?_
    refine WL.val (OV.assign rfl) rfl ?_
    refine WL.nil ?_
    refine WX.next ?_
    refine WC.ret ?_
    refine WX.then_ret ?_
    have hnw : ¬ l.length = g.width := by have := hr.1; intro h; apply c16; omega
    exact WX.ret2 rfl rfl rfl rfl (fun w' hw => ⟨by rw [addV, addE, if_neg hnw, decide_eq_false (fun h => hnw h.1)], g, by rw [addRP, if_neg (fun h => hnw h.1)], ok, RelLe.refl g, hw.turned⟩)
  · try simp only [decide_eq_true_eq, decide_eq_false_iff_not, Bool.not_eq_true', Bool.not_eq_false'] at c16
    refine WC.skip ?_
    refine WX.next ?_
    refine WC.seq ?_
    refine WC.region ?_
    refine WL.val (OV.move rfl) rfl ?_
    refine WL.call0 (by kernel_rfl) rfl rfl (fun w' hw => key_calls l a m c hi hm w' (hr.satA hne hw)) ?_
    refine WL.val (OV.assign rfl) rfl ?_
    refine WL.nil ?_
    refine WX.next ?_
    refine WC.seq ?_
    refine WC.seq ?_
    refine WC.region ?_
    refine WL.val (OV.move rfl) rfl ?_
    refine WL.val (OV.nilCheck rfl) rfl ?_
    first
    | (refine WL.val (OV.fieldAddr0 (off := 1) rfl T.u142 rfl) rfl ?_)
    | (refine WL.val (OV.fieldAddr (off := 1) rfl T.u142 rfl) rfl ?_)
    first
    | (refine WL.val (OV.load1 rfl T.u130 rfl (fun _ hw => cell_own hw (.head _) rfl)) rfl ?_)
    | (refine WL.val (OV.load1 rfl T.u130 rfl (fun _ hw => cell_own hw (.tail _ (.head _)) rfl)) rfl ?_)
    | (refine WL.val (OV.load1 rfl T.u130 rfl (fun _ hw => cell_own hw (.tail _ (.tail _ (.head _))) rfl)) rfl ?_)
    | (refine WL.val (OV.load1 rfl T.u130 rfl (fun _ hw => cell_own hw (.tail _ (.tail _ (.tail _ (.head _)))) rfl)) rfl ?_)
    | (refine WL.val (OV.load1 rfl T.u130 rfl (fun _ hw => cell_own hw (.tail _ (.tail _ (.tail _ (.tail _ (.head _))))) rfl)) rfl ?_)
    refine WL.val (OV.move rfl) rfl ?_
    refine WL.val ((OV.lookup (KeyLaw.str T.u9) T.u130 (by kernel_rfl) rfl rfl (fun _ hw => own_map (.tail _ (.head _)) _ hw)).cast (rowsM_got g.es l)) rfl ?_
    refine WL.val (OV.neqPN T.u143 rfl rfl) rfl ?_
    refine WL.nil ?_
    refine WX.next ?_
    refine WC.cond rfl (fun c25 => ?_) (fun c25 => ?_)
    · try simp only [decide_eq_true_eq, decide_eq_false_iff_not, Bool.not_eq_true', Bool.not_eq_false'] at c25
      refine WC.seq ?_
      refine WC.region ?_
      refine WL.val (OV.assign rfl) rfl ?_
      refine WL.val (OV.assign rfl) rfl ?_
      refine WL.nil ?_
      refine WX.next ?_
      refine WC.ret ?_
      refine WX.then_ret ?_
      have hwd : l.length = g.width := by have := hr.1; omega
      have hin : l ∈ (rp g).map (·.1) := by
        rw [mem_rp]
        cases hf : g.es.find? fun e => e.row = l with
        | none => rw [hf] at c25; simp at c25
        | some e => exact ⟨e, List.mem_of_find?_eq_some hf, by simpa using List.find?_some hf⟩
      exact WX.ret2 rfl rfl rfl rfl (fun w' hw => ⟨by rw [addV, addE, if_pos hwd, decide_eq_false (fun h => h.2 hin)], g, by rw [addRP, if_neg (fun h => h.2 hin)], ok, RelLe.refl g, hw.turned⟩)
    · try simp only [decide_eq_true_eq, decide_eq_false_iff_not, Bool.not_eq_true', Bool.not_eq_false'] at c25
      refine WC.skip ?_
      refine WX.next ?_
      refine WC.seq ?_
      refine WC.region ?_
      refine WL.val (OV.move rfl) rfl ?_
      refine WL.callF (ι := Option Addr × Nat) (vv := fun q => .slice q.1 l.length q.2) (pp := fun _ => True) (it := fun q => row 3 1 q.1 l.length q.2 (ints l)) (by kernel_rfl) rfl rfl (fun w' hw => (clone_calls l a m c hm w' (hr.satA hne hw)).mono (fun en w'' ⟨a', c', q1, q2, q3⟩ => ⟨(a', c'), q1, trivial, q2, q3⟩)) ?_
      rintro ⟨a27, c27⟩ _
      refine WL.val (OV.buildStruct (xs := [(0, .tmp 27), (1, .const (.int .i64 4))]) (pl := [(0, 1), (1, 1)]) (cs := [.slice a27 l.length c27, .int .i64 4]) T.u146 T.zr146 (by kernel_rfl) rfl (fill_cons (us := [_]) rfl rfl (by first | decide | simp) (fill_cons (us := [_]) rfl rfl (by first | decide | simp) rfl))) rfl ?_
      refine WL.box rfl rfl rfl ?_
      intro b29
      refine WL.val (OV.assign rfl) rfl ?_
      refine WL.nil ?_
      refine WX.next ?_
      refine WC.seq ?_
      refine WC.region ?_
      refine WL.val (OV.move rfl) rfl ?_
      refine WL.val (OV.nilCheck rfl) rfl ?_
      first
      | (refine WL.val (OV.fieldAddr0 (off := 1) rfl T.u142 rfl) rfl ?_)
      | (refine WL.val (OV.fieldAddr (off := 1) rfl T.u142 rfl) rfl ?_)
      first
      | (refine WL.val (OV.load1 rfl T.u130 rfl (fun _ hw => cell_own hw (.head _) rfl)) rfl ?_)
      | (refine WL.val (OV.load1 rfl T.u130 rfl (fun _ hw => cell_own hw (.tail _ (.head _)) rfl)) rfl ?_)
      | (refine WL.val (OV.load1 rfl T.u130 rfl (fun _ hw => cell_own hw (.tail _ (.tail _ (.head _))) rfl)) rfl ?_)
      | (refine WL.val (OV.load1 rfl T.u130 rfl (fun _ hw => cell_own hw (.tail _ (.tail _ (.tail _ (.head _)))) rfl)) rfl ?_)
      | (refine WL.val (OV.load1 rfl T.u130 rfl (fun _ hw => cell_own hw (.tail _ (.tail _ (.tail _ (.tail _ (.head _))))) rfl)) rfl ?_)
      refine WL.val (OV.move rfl) rfl ?_
      refine WL.val (OV.move rfl) rfl ?_
      first
      | (refine WL.mapUpdate (KeyLaw.str T.u9) T.u130 rfl rfl rfl ?_)
      | (refine WL.focus perm1 (WL.mapUpdate (KeyLaw.str T.u9) T.u130 rfl rfl rfl ?_))
      | (refine WL.focus perm2 (WL.mapUpdate (KeyLaw.str T.u9) T.u130 rfl rfl rfl ?_))
      | (refine WL.focus perm3 (WL.mapUpdate (KeyLaw.str T.u9) T.u130 rfl rfl rfl ?_))
      | (refine WL.focus perm4 (WL.mapUpdate (KeyLaw.str T.u9) T.u130 rfl rfl rfl ?_))
      refine WL.nil ?_
      refine WX.next ?_
      refine WC.seq ?_
      refine WC.region ?_
      refine WL.val (OV.move rfl) rfl ?_
      refine WL.val (OV.move rfl) rfl ?_
      refine WL.val (OV.nilCheck rfl) rfl ?_
      first
      | (refine WL.val (OV.fieldAddr0 (off := 3) rfl T.u142 rfl) rfl ?_)
      | (refine WL.val (OV.fieldAddr (off := 3) rfl T.u142 rfl) rfl ?_)
      first
      | (refine WL.val (OV.load1 rfl T.u131 rfl (fun _ hw => cell_own hw (.head _) rfl)) rfl ?_)
      | (refine WL.val (OV.load1 rfl T.u131 rfl (fun _ hw => cell_own hw (.tail _ (.head _)) rfl)) rfl ?_)
      | (refine WL.val (OV.load1 rfl T.u131 rfl (fun _ hw => cell_own hw (.tail _ (.tail _ (.head _))) rfl)) rfl ?_)
      | (refine WL.val (OV.load1 rfl T.u131 rfl (fun _ hw => cell_own hw (.tail _ (.tail _ (.tail _ (.head _)))) rfl)) rfl ?_)
      | (refine WL.val (OV.load1 rfl T.u131 rfl (fun _ hw => cell_own hw (.tail _ (.tail _ (.tail _ (.tail _ (.head _))))) rfl)) rfl ?_)
      refine WL.val (OV.move rfl) rfl ?_
      refine WL.buildSlice1 T.u131 T.z143 T.zr143 rfl rfl rfl ?_
      intro b42
      refine WL.focus perm7 (WL.append (news := [ptr b29]) rfl rfl T.apP (fun _ _ => own_src (.tail _ (.head _)) rfl) (by simp [Value.oneCell', ptr]) ⟨by have := ns_len ok; omega, by unfold maxLen; have := ns_len ok; omega⟩ rfl ?_)
      intro a43 c43
      refine WL.val (OV.nilCheck rfl) rfl ?_
      first
      | (refine WL.val (OV.fieldAddr0 (off := 3) rfl T.u142 rfl) rfl ?_)
      | (refine WL.val (OV.fieldAddr (off := 3) rfl T.u142 rfl) rfl ?_)
      refine WL.focus perm5 (WL.store1 (o := 3) rfl rfl rfl T.z131 (by rw [hdC_length (counts_length _)]; omega) ?_)
      rw [hdC_set3]
      refine WL.nil ?_
      refine WX.next ?_
      refine WC.seq ?_
      refine WC.selfB [9] (by kernel_rfl) (by kernel_rfl) (m := 10) rfl ?_
      refine WH.free 0 rfl (by kernel_rfl) (by kernel_rfl) (by kernel_rfl) rfl (fun _ => (fun _ h => h)) (OV.move rfl) rfl (listed' := [true, false, false, false, false, false, false, false, false, false]) rfl ?_
      refine WH.free 1 rfl (by kernel_rfl) (by kernel_rfl) (by kernel_rfl) rfl (fun _ => (fun _ h => h)) (OV.nilCheck rfl) rfl (listed' := [true, true, false, false, false, false, false, false, false, false]) rfl ?_
      first
      | (refine WH.free 2 rfl (by kernel_rfl) (by kernel_rfl) (by kernel_rfl) rfl (fun _ => (fun _ h => h)) (OV.fieldAddr0 (off := 4) rfl T.u142 rfl) rfl (listed' := [true, true, true, false, false, false, false, false, false, false]) rfl ?_)
      | (refine WH.free 2 rfl (by kernel_rfl) (by kernel_rfl) (by kernel_rfl) rfl (fun _ => (fun _ h => h)) (OV.fieldAddr (off := 4) rfl T.u142 rfl) rfl (listed' := [true, true, true, false, false, false, false, false, false, false]) rfl ?_)
      first
      | (refine WH.free 3 rfl (by kernel_rfl) (by kernel_rfl) (by kernel_rfl) rfl (fun _ => (fun _ h => h)) (OV.indexArrN (i := 4) rfl rfl T.u132 T.z3 (by omega)) rfl (listed' := [true, true, true, true, false, false, false, false, false, false]) rfl ?_)
      | (refine WH.free 3 rfl (by kernel_rfl) (by kernel_rfl) (by kernel_rfl) rfl (fun _ => (fun _ h => h)) (OV.indexArrON (i := 4) rfl rfl T.u132 T.z3 (by omega)) rfl (listed' := [true, true, true, true, false, false, false, false, false, false]) rfl ?_)
      | (refine WH.free 3 rfl (by kernel_rfl) (by kernel_rfl) (by kernel_rfl) rfl (fun _ => (fun _ h => h)) (OV.indexArr1 rfl rfl T.u132 T.z3 (by omega)) rfl (listed' := [true, true, true, true, false, false, false, false, false, false]) rfl ?_)
      refine WH.take 4 rfl (by kernel_rfl) (by kernel_rfl) (by kernel_rfl) (by kernel_rfl) (fun _ h => h) (OV.load1 (v := .int .i64 (cnt g.es 4 : Int)) rfl T.u3 rfl (fun _ hw => cell_own hw (.head _) (by rw [List.getElem?_toArray]; exact hdC_cnt (q := 4) (counts_get (by decide))))) rfl (listed' := [true, true, true, true, true, false, false, false, false, false]) rfl ?_
      have hc4 := cnt_le g.es 4
      first
      | (refine WH.free 5 rfl (by kernel_rfl) (by kernel_rfl) (by kernel_rfl) rfl (fun _ => (fun _ h => h)) (OV.addI rfl rfl (by omega)) rfl (listed' := [true, true, true, true, true, true, false, false, false, false]) rfl ?_)
      | (refine WH.free 5 rfl (by kernel_rfl) (by kernel_rfl) (by kernel_rfl) rfl (fun _ => (fun _ h => h)) (OV.add rfl rfl) rfl (listed' := [true, true, true, true, true, true, false, false, false, false]) rfl ?_)
      refine WH.free 6 rfl (by kernel_rfl) (by kernel_rfl) (by kernel_rfl) rfl (fun _ => (fun _ h => h)) (OV.nilCheck rfl) rfl (listed' := [true, true, true, true, true, true, true, false, false, false]) rfl ?_
      first
      | (refine WH.free 7 rfl (by kernel_rfl) (by kernel_rfl) (by kernel_rfl) rfl (fun _ => (fun _ h => h)) (OV.fieldAddr0 (off := 4) rfl T.u142 rfl) rfl (listed' := [true, true, true, true, true, true, true, true, false, false]) rfl ?_)
      | (refine WH.free 7 rfl (by kernel_rfl) (by kernel_rfl) (by kernel_rfl) rfl (fun _ => (fun _ h => h)) (OV.fieldAddr (off := 4) rfl T.u142 rfl) rfl (listed' := [true, true, true, true, true, true, true, true, false, false]) rfl ?_)
      first
      | (refine WH.free 8 rfl (by kernel_rfl) (by kernel_rfl) (by kernel_rfl) rfl (fun _ => (fun _ h => h)) (OV.indexArrN (i := 4) rfl rfl T.u132 T.z3 (by omega)) rfl (listed' := [true, true, true, true, true, true, true, true, true, false]) rfl ?_)
      | (refine WH.free 8 rfl (by kernel_rfl) (by kernel_rfl) (by kernel_rfl) rfl (fun _ => (fun _ h => h)) (OV.indexArrON (i := 4) rfl rfl T.u132 T.z3 (by omega)) rfl (listed' := [true, true, true, true, true, true, true, true, true, false]) rfl ?_)
      | (refine WH.free 8 rfl (by kernel_rfl) (by kernel_rfl) (by kernel_rfl) rfl (fun _ => (fun _ h => h)) (OV.indexArr1 rfl rfl T.u132 T.z3 (by omega)) rfl (listed' := [true, true, true, true, true, true, true, true, true, false]) rfl ?_)
      refine WH.only 9 rfl (by kernel_rfl) (listed' := [true, true, true, true, true, true, true, true, true, true]) rfl (fl' := true) rfl ?_
      refine WL.store1 (o := 4 + 4) rfl rfl rfl T.z3 (by rw [hdC_length (counts_length _)]; omega) ?_
      rw [hdC_set (by rw [counts_length]; decide), counts_snoc g.es (Ent.mk b29 a27 c27 l 4) rfl]
      refine WL.nil ?_
      refine WX.contD (by kernel_rfl) (fun h => by cases h) ?_
      refine WH.done (by kernel_rfl) ?_
      refine WX.next ?_
      refine WC.seq ?_
      refine WC.seq ?_
      refine WC.region ?_
      refine WL.val (OV.move rfl) rfl ?_
      refine WL.val (OV.nilCheck rfl) rfl ?_
      first
      | (refine WL.val (OV.fieldAddr0 (off := 12) rfl T.u142 rfl) rfl ?_)
      | (refine WL.val (OV.fieldAddr (off := 12) rfl T.u142 rfl) rfl ?_)
      refine WL.val (OV.load1 rfl T.u133 rfl (fun _ hw => cell_own hw (.head _) (by rw [List.getElem?_toArray]; exact hdC_ix (counts_length _)))) rfl ?_
      refine WL.range T.u133 rfl (fun _ hw => own_map (kv := ixM g.ix) (.tail _ (.tail _ (.tail _ (.tail _ (.tail _ (.tail _ (.head _))))))) _ hw) rfl ?_
      intro it59
      refine WL.nil ?_
      refine WX.next ?_
      refine WC.block ?_
      have hfresh : ∀ x ∈ g.es, x.row ≠ l := by
        intro x hx hh
        have : (g.es.find? fun e => e.row = l) = none := by simpa using c25
        rw [List.find?_eq_none] at this
        exact this x hx (by simpa using hh)
      refine WC.loop2 (fun (ix' : List Idx) (vis : List Nat) => [(7, ptr b29), (59, .pointer (some ⟨it59, 0, none⟩))])
          (fun ix' vis w' => Ixs (Ent.mk b29 a27 c27 l 4) g.ix vis ix' ∧ Sat w (DD (relA g)) (fun b => b < w.heap.size ∧ ¬ DD (relA g) b) w (own it59 (iterK g.ib (ixM g.ix).length vis) :: hdA g.r (hdC g.width g.mb (fslice g) (.slice a43 (g.ns.length + 1) c43) (counts (g.es ++ [(Ent.mk b29 a27 c27 l 4)])) g.ib) :: own g.mb (mapK Value.string (rowsM (g.es ++ [(Ent.mk b29 a27 c27 l 4)]))) :: own g.ib (mapK Value.string (ixM g.ix)) :: psA g.fa g.fc g.fs :: row 143 1 a43 (g.ns.length + 1) c43 (ptrs (g.ns ++ [b29])) :: tailA (g.es ++ [(Ent.mk b29 a27 c27 l 4)]) g.cols ix') w')
          (fun _ vis => unseen (ixM g.ix).length vis) g.ix [] ⟨rfl, rfl, trivial⟩ (fun w' hw => ⟨Ixs.start _ _, ?_⟩) ?_
      · have h1 := (hw.perm perm3).drop
        have h2 := rowsM_snoc (es := g.es) (e := (Ent.mk b29 a27 c27 l 4)) hfresh
        rw [← h2]
        have h3 : ptrs g.ns ++ [ptr b29] = ptrs (g.ns ++ [b29]) := by simp [ptrs]
        rw [h3] at h1
        refine h1.perm (List.Perm.cons _ (List.Perm.cons _ ?_))
        have ht := tail_ent g.es [] (Ent.mk b29 a27 c27 l 4) g.cols g.ix
        rw [List.append_nil] at ht
        exact (List.Perm.append_left [_, _, _, _] ht.symm).trans perm_add5
      intro ix' vis
      refine WC.pure (fun hix => ?_)
      refine WC.seq ?_
      refine WC.region ?_
      refine WL.next (enc := Value.string) (kv := ixM g.ix) rfl rfl (fun _ hw => own_map (.tail _ (.tail _ (.tail _ (.head _)))) _ hw) ?_ ?_
      · intro hall
        refine WL.val (OV.extract rfl rfl) rfl ?_
        refine WL.nil ?_
        refine WX.next ?_
        refine WC.seq ?_
        refine WC.condF rfl ?_
        refine WC.exit ?_
        refine WX.then_exit ?_
        refine WX.then_exit ?_
        refine WX.block_hit ?_
        refine WX.next ?_
        refine WC.seq ?_
        refine WC.region ?_
        refine WL.val (OV.assign rfl) rfl ?_
        refine WL.val (OV.assign rfl) rfl ?_
        refine WL.nil ?_
        refine WX.next ?_
        refine WC.ret ?_
        have hwd : l.length = g.width := by have := hr.1; omega
        have hnin : l ∉ (rp g).map (·.1) := by
          rw [mem_rp]
          rintro ⟨e, he, hh⟩
          exact hfresh e he hh
        refine WX.ret2 rfl rfl rfl rfl (fun w' hw => ⟨by rw [addV, addE, if_pos hwd, decide_eq_true ⟨hwd, hnin⟩], addG g (Ent.mk b29 a27 c27 l 4) a43 c43 ix', ?_, ?_, ?_, ?_⟩)
        · rw [addRP, if_pos ⟨hwd, hnin⟩]; simp [rp, addG]
        · have hnd := tail_nodup (X := [own it59 (iterK g.ib (ixM g.ix).length vis), hdA g.r (hdC g.width g.mb (fslice g) (.slice a43 (g.ns.length + 1) c43) (counts (g.es ++ [(Ent.mk b29 a27 c27 l 4)])) g.ib), own g.mb (mapK Value.string (rowsM (g.es ++ [(Ent.mk b29 a27 c27 l 4)]))), own g.ib (mapK Value.string (ixM g.ix)), psA g.fa g.fc g.fs, row 143 1 a43 (g.ns.length + 1) c43 (ptrs (g.ns ++ [b29]))]) hw
          refine addG_ok ok hwd hi rfl hfresh ?_ hlen (show l.length ≤ 1099511627776 by have := hr.1; omega) hix (by rw [ixM_length] at hall; exact hall)
          intro x hx hh
          rw [List.map_append] at hnd
          exact (List.nodup_append.1 hnd).2.2 _ (List.mem_map.2 ⟨x, hx, rfl⟩) _ (.head _) hh
        · exact ⟨rfl, rfl, fun e he => ⟨e, List.mem_append_left _ he, rfl, rfl, rfl, rfl⟩, fun _ h => h⟩
        · have h1 := hw.drop
          have h2 := hix.ixM
          have h3 : relA (addG g (Ent.mk b29 a27 c27 l 4) a43 c43 ix') = hdA g.r (hdC g.width g.mb (fslice g) (.slice a43 (g.ns.length + 1) c43) (counts (g.es ++ [(Ent.mk b29 a27 c27 l 4)])) g.ib) :: own g.mb (mapK Value.string (rowsM (g.es ++ [(Ent.mk b29 a27 c27 l 4)]))) :: own g.ib (mapK Value.string (ixM ix')) :: psA g.fa g.fc g.fs :: psA a43 c43 (g.ns ++ [b29]) :: tailA (g.es ++ [(Ent.mk b29 a27 c27 l 4)]) g.cols ix' := by
            unfold relA addG fslice nslice
            simp
          rw [h3, h2]
          have h4 : psA a43 c43 (g.ns ++ [b29]) = row 143 1 a43 (g.ns.length + 1) c43 (ptrs (g.ns ++ [b29])) := by
            show row 143 1 a43 (g.ns ++ [b29]).length c43 _ = _
            rw [List.length_append, List.length_singleton]
          rw [h4]
          exact h1.turned
      · intro i q hi2 hv
        obtain ⟨x0, hx0, rfl⟩ := ixM_get hi2
        obtain ⟨x', hx1, hxp, hxm, hxc, _, hxg⟩ := hix.at_ i x0 hx0
        obtain ⟨m1, m2, rfl, hm1⟩ := split_get hx1
        have hx0m := List.mem_of_getElem? hx0
        have hcm := ok.ixc x0 hx0m
        rw [← hxc] at hcm
        obtain ⟨k1, k2, hk⟩ := split_mem hcm
        have hcl := ok.coll _ hcm
        have hml := hr.1
        have hcw : ∀ k ∈ x'.col.l, 0 ≤ k ∧ k < (l.length : Int) := fun k hkk => by have := ok.cols _ hcm k hkk; omega
        have hps : (psOf x'.gs (ixKey x'.col (Ent.mk b29 a27 c27 l 4))).length ≤ 1099511627776 := by
          rw [hxg hv]
          have h1 := ((ok.ix x0 hx0m).ps (ixKey x'.col (Ent.mk b29 a27 c27 l 4))).length_eq
          rw [List.length_map] at h1
          have h2 := List.length_filter_le (fun e => decide (ixKey x0.col e = ixKey x'.col (Ent.mk b29 a27 c27 l 4))) g.es
          omega
        refine WL.val (OV.extract rfl rfl) rfl ?_
        refine WL.nil ?_
        refine WX.next ?_
        refine WC.seq ?_
        refine WC.condT rfl ?_
        refine WC.skip ?_
        refine WX.next ?_
        refine WC.block ?_
        refine WC.seq ?_
        refine WC.region ?_
        refine WL.val (OV.entry (enc := Value.string) (kv := ixM g.ix) (i := i) rfl (fun _ hw => hw.it _ (.head _)) (fun _ hw => own_map (.tail _ (.tail _ (.tail _ (.head _)))) _ hw) hi2) rfl ?_
        refine WL.val (OV.extract rfl rfl) rfl ?_
        refine WL.val (OV.assign rfl) rfl ?_
        refine WL.nil ?_
        refine WX.next ?_
        refine WC.region ?_
        refine WL.val (OV.move rfl) rfl ?_
        refine WL.val (OV.move rfl) rfl ?_
        refine WL.focus (ow' := (idxA x' ++ (entA (Ent.mk b29 a27 c27 l 4) ++ colA x'.col)) ++ ([own it59 (iterK g.ib (ixM g.ix).length (vis ++ [i])), hdA g.r (hdC g.width g.mb (fslice g) (.slice a43 (g.ns.length + 1) c43) (counts (g.es ++ [(Ent.mk b29 a27 c27 l 4)])) g.ib), own g.mb (mapK Value.string (rowsM (g.es ++ [(Ent.mk b29 a27 c27 l 4)]))), own g.ib (mapK Value.string (ixM g.ix)), psA g.fa g.fc g.fs, row 143 1 a43 (g.ns.length + 1) c43 (ptrs (g.ns ++ [b29]))] ++ tailA g.es (k1 ++ k2) (m1 ++ m2))) (by rw [hk]; exact perm_deep (X := [own it59 (iterK g.ib (ixM g.ix).length (vis ++ [i])), hdA g.r (hdC g.width g.mb (fslice g) (.slice a43 (g.ns.length + 1) c43) (counts (g.es ++ [(Ent.mk b29 a27 c27 l 4)])) g.ib), own g.mb (mapK Value.string (rowsM (g.es ++ [(Ent.mk b29 a27 c27 l 4)]))), own g.ib (mapK Value.string (ixM g.ix)), psA g.fa g.fc g.fs, row 143 1 a43 (g.ns.length + 1) c43 (ptrs (g.ns ++ [b29]))]) (es := g.es) (e := (Ent.mk b29 a27 c27 l 4))) (WL.callTA (ι := Option Addr × Nat) (vv := fun _ => .tuple #[]) (pp := fun _ => True) (idxA x' ++ (entA (Ent.mk b29 a27 c27 l 4) ++ colA x'.col)) (AA := fun q => idxA { x' with gs := gadd x'.gs (ixKey x'.col (Ent.mk b29 a27 c27 l 4)) b29 q.1 q.2 } ++ (entA (Ent.mk b29 a27 c27 l 4) ++ colA x'.col)) rfl (by kernel_rfl) (show _ = some [ptr x'.p, ptr b29] by rw [hxp]; rfl) rfl (fun w'' hw'' hH => (idxAdd_calls x' (Ent.mk b29 a27 c27 l 4) hcw hi (show l.length ≤ 1099511627776 by omega) hcl hps w'' hH).mono (fun en w3 ⟨q1, a', c', q2⟩ => ⟨(a', c'), q1, trivial, q2⟩)) ?_)
        rintro ⟨a66, c66⟩ _
        refine WL.nil ?_
        refine WX.block_normal ?_
        exact WX.round2 (m1 ++ { x' with gs := gadd x'.gs (ixKey x'.col (Ent.mk b29 a27 c27 l 4)) b29 a66 c66 } :: m2) (vis ++ [i]) ⟨rfl, rfl, trivial⟩ (fun w' hw => ⟨by rw [← hm1] at hv ⊢; exact hix.step hv, by
          refine hw.perm ?_
          rw [hk]
          exact (perm_deep (X := [own it59 (iterK g.ib (ixM g.ix).length (vis ++ [i])), hdA g.r (hdC g.width g.mb (fslice g) (.slice a43 (g.ns.length + 1) c43) (counts (g.es ++ [(Ent.mk b29 a27 c27 l 4)])) g.ib), own g.mb (mapK Value.string (rowsM (g.es ++ [(Ent.mk b29 a27 c27 l 4)]))), own g.ib (mapK Value.string (ixM g.ix)), psA g.fa g.fc g.fs, row 143 1 a43 (g.ns.length + 1) c43 (ptrs (g.ns ++ [b29]))]) (es := g.es) (e := (Ent.mk b29 a27 c27 l 4)) (x := { x' with gs := gadd x'.gs (ixKey x'.col (Ent.mk b29 a27 c27 l 4)) b29 a66 c66 })).symm⟩) (unseen_lt (List.getElem?_eq_some_iff.1 hi2).1 hv)

end Go.Proofs.YtgiiifadbnpfkaaGreatDoor

namespace Go.Proofs
set_option linter.unusedSimpArgs false
set_option linter.unusedVariables false
open Go Go.Shelf
set_option maxRecDepth 100000
def Tryz.sortF_ren : Go.Shelf.Ren := ⟨fun | 6 => 97 | 15 => 68 | 14 => 130 | 28 => 107 | 29 => 108 | 20 => 161 | 21 => 162 | 22 => 163 | 23 => 164 | 24 => 165 | 25 => 166 | 26 => 167 | 27 => 168 | 46 => 197 | 47 => 132 | 48 => 133 | 49 => 198 | 50 => 199 | 57 => 216 | n => n, fun | 22 => 86 | 24 => 74 | 25 => 169 | 3 => 3 | 39 => 125 | 0 => 0 | 53 => 136 | 55 => 179 | 4 => 4 | 46 => 172 | 45 => 171 | 50 => 128 | 5 => 5 | 9 => 9 | 66 => 195 | 70 => 199 | 76 => 219 | 77 => 220 | n => n, fun | n => n⟩
theorem Tryz.sortF : Go.Proofs.SlLaysF.n6 Tryz.prog Tryz.sortF_ren := {
  mixed := by kernel_rfl
  f6 := ⟨Tryz.f97.name, by decide, Tryz.func97.trans (congrArg some (by kernel_rfl))⟩
  f14 := ⟨Tryz.f130.name, by decide, Tryz.func130.trans (congrArg some (by kernel_rfl))⟩
  f15 := Tryz.func68.trans (congrArg some (by kernel_rfl))
  f20 := ⟨Tryz.f161.name, by decide, Tryz.func161.trans (congrArg some (by kernel_rfl))⟩
  f21 := ⟨Tryz.f162.name, by decide, Tryz.func162.trans (congrArg some (by kernel_rfl))⟩
  f22 := ⟨Tryz.f163.name, by decide, Tryz.func163.trans (congrArg some (by kernel_rfl))⟩
  f23 := ⟨Tryz.f164.name, by decide, Tryz.func164.trans (congrArg some (by kernel_rfl))⟩
  f24 := ⟨Tryz.f165.name, by decide, Tryz.func165.trans (congrArg some (by kernel_rfl))⟩
  f25 := ⟨Tryz.f166.name, by decide, Tryz.func166.trans (congrArg some (by kernel_rfl))⟩
  f26 := ⟨Tryz.f167.name, by decide, Tryz.func167.trans (congrArg some (by kernel_rfl))⟩
  f27 := ⟨Tryz.f168.name, by decide, Tryz.func168.trans (congrArg some (by kernel_rfl))⟩
  f28 := Tryz.func107.trans (congrArg some (by kernel_rfl))
  f29 := Tryz.func108.trans (congrArg some (by kernel_rfl))
  f46 := ⟨Tryz.f197.name, by decide, Tryz.func197.trans (congrArg some (by kernel_rfl))⟩
  f47 := Tryz.func132.trans (congrArg some (by kernel_rfl))
  f48 := Tryz.func133.trans (congrArg some (by kernel_rfl))
  f49 := ⟨Tryz.f198.name, by decide, Tryz.func198.trans (congrArg some (by kernel_rfl))⟩
  f50 := ⟨Tryz.f199.name, by decide, Tryz.func199.trans (congrArg some (by kernel_rfl))⟩
  f57 := ⟨Tryz.f216.name, by decide, Tryz.func216.trans (congrArg some (by kernel_rfl))⟩
  t0 := Tryz.underlying0
  a0 := Tryz.isAgg0
  z0 := Tryz.sizeOf0
  v0 := Tryz.zeroValue0
  t3 := Tryz.underlying3
  a3 := Tryz.isAgg3
  z3 := Tryz.sizeOf3
  v3 := Tryz.zeroValue3
  t4 := Tryz.underlying4
  a4 := Tryz.isAgg4
  z4 := Tryz.sizeOf4
  v4 := Tryz.zeroValue4
  t5 := Tryz.underlying5
  a5 := Tryz.isAgg5
  z5 := Tryz.sizeOf5
  v5 := Tryz.zeroValue5
  t9 := Tryz.underlying9
  a9 := Tryz.isAgg9
  z9 := Tryz.sizeOf9
  v9 := Tryz.zeroValue9
  t22 := Tryz.underlying86
  a22 := Tryz.isAgg86
  z22 := Tryz.sizeOf86
  v22 := Tryz.zeroValue86
  a24 := Tryz.isAgg74
  z24 := Tryz.sizeOf74
  t25 := Tryz.underlying169
  a25 := Tryz.isAgg169
  z25 := Tryz.sizeOf169
  v25 := Tryz.zeroValue169
  t39 := Tryz.underlying125
  a39 := Tryz.isAgg125
  z39 := Tryz.sizeOf125
  v39 := Tryz.zeroValue125
  t45 := Tryz.underlying171
  a45 := Tryz.isAgg171
  z45 := Tryz.sizeOf171
  v45 := Tryz.zeroValue171
  t46 := Tryz.underlying172
  a46 := Tryz.isAgg172
  z46 := Tryz.sizeOf172
  v46 := Tryz.zeroValue172
  t50 := Tryz.underlying128
  a50 := Tryz.isAgg128
  z50 := Tryz.sizeOf128
  v50 := Tryz.zeroValue128
  t53 := Tryz.underlying136
  a53 := Tryz.isAgg136
  z53 := Tryz.sizeOf136
  v53 := Tryz.zeroValue136
  t55 := Tryz.underlying179
  a55 := Tryz.isAgg179
  z55 := Tryz.sizeOf179
  v55 := Tryz.zeroValue179
  t66 := Tryz.underlying195
  a66 := Tryz.isAgg195
  z66 := Tryz.sizeOf195
  v66 := Tryz.zeroValue195
  t70 := Tryz.underlying199
  a70 := Tryz.isAgg199
  z70 := Tryz.sizeOf199
  v70 := Tryz.zeroValue199
  t76 := Tryz.underlying219
  a76 := Tryz.isAgg219
  z76 := Tryz.sizeOf219
  v76 := Tryz.zeroValue219
  t77 := Tryz.underlying220
  a77 := Tryz.isAgg220
  z77 := Tryz.sizeOf220
  v77 := Tryz.zeroValue220 }
def Tryz.sortI_ren : Go.Shelf.Ren := ⟨fun | 5 => 127 | 8 => 68 | 7 => 158 | 19 => 107 | 20 => 108 | 10 => 180 | 11 => 181 | 12 => 182 | 13 => 183 | 14 => 184 | 15 => 185 | 16 => 186 | 17 => 187 | 18 => 188 | 30 => 206 | 31 => 132 | 32 => 133 | 33 => 207 | 34 => 208 | 35 => 75 | 40 => 221 | n => n, fun | 23 => 74 | 25 => 3 | 3 => 3 | 32 => 125 | 22 => 74 | 0 => 0 | 44 => 136 | 46 => 179 | 4 => 4 | 36 => 172 | 35 => 171 | 41 => 128 | 5 => 5 | 9 => 9 | 53 => 195 | 57 => 199 | 63 => 219 | 64 => 220 | n => n, fun | n => n⟩
theorem Tryz.sortI : Go.Proofs.SlLaysM.n5 Tryz.prog Tryz.sortI_ren := {
  mixed := by kernel_rfl
  f5 := ⟨Tryz.f127.name, by decide, Tryz.func127.trans (congrArg some (by kernel_rfl))⟩
  f7 := ⟨Tryz.f158.name, by decide, Tryz.func158.trans (congrArg some (by kernel_rfl))⟩
  f8 := Tryz.func68.trans (congrArg some (by kernel_rfl))
  f10 := ⟨Tryz.f180.name, by decide, Tryz.func180.trans (congrArg some (by kernel_rfl))⟩
  f11 := ⟨Tryz.f181.name, by decide, Tryz.func181.trans (congrArg some (by kernel_rfl))⟩
  f12 := ⟨Tryz.f182.name, by decide, Tryz.func182.trans (congrArg some (by kernel_rfl))⟩
  f13 := ⟨Tryz.f183.name, by decide, Tryz.func183.trans (congrArg some (by kernel_rfl))⟩
  f14 := ⟨Tryz.f184.name, by decide, Tryz.func184.trans (congrArg some (by kernel_rfl))⟩
  f15 := ⟨Tryz.f185.name, by decide, Tryz.func185.trans (congrArg some (by kernel_rfl))⟩
  f16 := ⟨Tryz.f186.name, by decide, Tryz.func186.trans (congrArg some (by kernel_rfl))⟩
  f17 := ⟨Tryz.f187.name, by decide, Tryz.func187.trans (congrArg some (by kernel_rfl))⟩
  f18 := ⟨Tryz.f188.name, by decide, Tryz.func188.trans (congrArg some (by kernel_rfl))⟩
  f19 := Tryz.func107.trans (congrArg some (by kernel_rfl))
  f20 := Tryz.func108.trans (congrArg some (by kernel_rfl))
  f30 := ⟨Tryz.f206.name, by decide, Tryz.func206.trans (congrArg some (by kernel_rfl))⟩
  f31 := Tryz.func132.trans (congrArg some (by kernel_rfl))
  f32 := Tryz.func133.trans (congrArg some (by kernel_rfl))
  f33 := ⟨Tryz.f207.name, by decide, Tryz.func207.trans (congrArg some (by kernel_rfl))⟩
  f34 := ⟨Tryz.f208.name, by decide, Tryz.func208.trans (congrArg some (by kernel_rfl))⟩
  f35 := ⟨Tryz.f75.name, by decide, Tryz.func75.trans (congrArg some (by kernel_rfl))⟩
  f40 := ⟨Tryz.f221.name, by decide, Tryz.func221.trans (congrArg some (by kernel_rfl))⟩
  t0 := Tryz.underlying0
  a0 := Tryz.isAgg0
  z0 := Tryz.sizeOf0
  v0 := Tryz.zeroValue0
  t3 := Tryz.underlying3
  a3 := Tryz.isAgg3
  z3 := Tryz.sizeOf3
  v3 := Tryz.zeroValue3
  t4 := Tryz.underlying4
  a4 := Tryz.isAgg4
  z4 := Tryz.sizeOf4
  v4 := Tryz.zeroValue4
  t5 := Tryz.underlying5
  a5 := Tryz.isAgg5
  z5 := Tryz.sizeOf5
  v5 := Tryz.zeroValue5
  t9 := Tryz.underlying9
  a9 := Tryz.isAgg9
  z9 := Tryz.sizeOf9
  v9 := Tryz.zeroValue9
  t22 := Tryz.underlying74
  a22 := Tryz.isAgg74
  z22 := Tryz.sizeOf74
  v22 := Tryz.zeroValue74
  t23 := Tryz.underlying74
  a23 := Tryz.isAgg74
  z23 := Tryz.sizeOf74
  v23 := Tryz.zeroValue74
  t25 := Tryz.underlying3
  a25 := Tryz.isAgg3
  z25 := Tryz.sizeOf3
  v25 := Tryz.zeroValue3
  t32 := Tryz.underlying125
  a32 := Tryz.isAgg125
  z32 := Tryz.sizeOf125
  v32 := Tryz.zeroValue125
  t35 := Tryz.underlying171
  a35 := Tryz.isAgg171
  z35 := Tryz.sizeOf171
  v35 := Tryz.zeroValue171
  t36 := Tryz.underlying172
  a36 := Tryz.isAgg172
  z36 := Tryz.sizeOf172
  v36 := Tryz.zeroValue172
  t41 := Tryz.underlying128
  a41 := Tryz.isAgg128
  z41 := Tryz.sizeOf128
  v41 := Tryz.zeroValue128
  t44 := Tryz.underlying136
  a44 := Tryz.isAgg136
  z44 := Tryz.sizeOf136
  v44 := Tryz.zeroValue136
  t46 := Tryz.underlying179
  a46 := Tryz.isAgg179
  z46 := Tryz.sizeOf179
  v46 := Tryz.zeroValue179
  t53 := Tryz.underlying195
  a53 := Tryz.isAgg195
  z53 := Tryz.sizeOf195
  v53 := Tryz.zeroValue195
  t57 := Tryz.underlying199
  a57 := Tryz.isAgg199
  z57 := Tryz.sizeOf199
  v57 := Tryz.zeroValue199
  t63 := Tryz.underlying219
  a63 := Tryz.isAgg219
  z63 := Tryz.sizeOf219
  v63 := Tryz.zeroValue219
  t64 := Tryz.underlying220
  a64 := Tryz.isAgg220
  z64 := Tryz.sizeOf220
  v64 := Tryz.zeroValue220 }

end Go.Proofs

namespace Go.Proofs.YtgiiifadbnpfkaaGreatDoor
open Go Go.Hw
set_option linter.unusedSimpArgs false
set_option linter.unusedVariables false
/-! ### What is asked of a relation's columns -/
def good (row : List Int) (p : Int × Int) : Prop := 0 ≤ p.1 ∧ p.1 < row.length ∧ row.getD p.1.toNat 0 = p.2
def fitsL (row cols key : List Int) : Prop := cols.length = key.length ∧ ∀ p ∈ cols.zip key, good row p
def lk (m : List (Int × Int)) (c : Int) : Option Int := (m.find? fun p => p.1 = c).map (·.2)
def kvI (m : List (Int × Int)) : List (Int × Value) := m.map fun p => (p.1, Value.int .i64 p.2)
theorem spot_kvI (m : List (Int × Int)) (c : Int) : ∀ i, (spot (kvI m) c i).map (·.2) = (lk m c).map (Value.int .i64) := by
  induction m with
  | nil => intro i; rfl
  | cons q m ih =>
    intro i
    rw [kvI, List.map_cons]
    unfold spot
    by_cases h : c = q.1
    · rw [if_pos h, lk, List.find?_cons_of_pos (by simp [h])]
      rfl
    · rw [if_neg h, lk, List.find?_cons_of_neg (by simpa using Ne.symm h)]
      exact ih (i + 1)
theorem kvI_got (m : List (Int × Int)) (c : Int) : (got (kvI m) c).getD (.int .i64 0) = .int .i64 ((lk m c).getD 0) := by
  rw [got, spot_kvI]
  cases lk m c <;> rfl
theorem kvI_some (m : List (Int × Int)) (c : Int) : (got (kvI m) c).isSome = (lk m c).isSome := by
  rw [got, spot_kvI]
  cases lk m c <;> rfl
theorem kvI_ups {m : List (Int × Int)} {c v : Int} (h : lk m c = none) : ups (kvI m) c (.int .i64 v) = kvI (m ++ [(c, v)]) := by
  rw [ups_new]
  · simp [kvI]
  · intro q hq
    obtain ⟨p, hp, rfl⟩ := List.mem_map.1 hq
    intro hh
    rw [lk, Option.map_eq_none_iff, List.find?_eq_none] at h
    exact h p hp (by simpa using hh)
theorem lk_mem {m : List (Int × Int)} {c v : Int} (h : lk m c = some v) : (c, v) ∈ m := by
  obtain ⟨p, hp, rfl⟩ := Option.map_eq_some_iff.1 h
  have h1 := List.mem_of_find?_eq_some hp
  have h2 := List.find?_some hp
  simp only [decide_eq_true_eq] at h2
  rw [← h2]
  exact h1
theorem lk_of_mem {m : List (Int × Int)} (hn : (m.map (·.1)).Nodup) {p : Int × Int} (h : p ∈ m) : lk m p.1 = some p.2 := by
  induction m with
  | nil => cases h
  | cons q m ih =>
    rw [List.map_cons, List.nodup_cons] at hn
    rcases List.mem_cons.1 h with rfl | h
    · simp [lk]
    · have hne : ¬ q.1 = p.1 := fun e => hn.1 (by rw [e]; exact List.mem_map.2 ⟨p, h, rfl⟩)
      rw [lk, List.find?_cons_of_neg (by simpa using hne)]
      exact ih hn.2 h
/-- What has been gathered from the first columns. -/
structure QI (width : Nat) (ps : List (Int × Int)) (m : List (Int × Int)) : Prop where
  nd : (m.map (·.1)).Nodup
  ok : ∀ p ∈ m, 0 ≤ p.1 ∧ p.1 < width
  sub : ∀ p ∈ m, p ∈ ps
  fits : ∀ row : List Int, (∀ p ∈ m, good row p) → ∀ p ∈ ps, good row p
theorem QI.nil (width : Nat) : QI width [] [] := ⟨by simp, by simp, by simp, by simp⟩
theorem QI.same {width : Nat} {ps m : List (Int × Int)} {c v : Int} (h : QI width ps m) (hl : lk m c = some v) : QI width (ps ++ [(c, v)]) m :=
  ⟨h.nd, h.ok, fun p hp => List.mem_append_left _ (h.sub p hp), fun row hr p hp => by
    rcases List.mem_append.1 hp with hp | hp
    · exact h.fits row hr p hp
    · simp only [List.mem_singleton] at hp
      subst hp
      exact hr _ (lk_mem hl)⟩
theorem QI.more {width : Nat} {ps m : List (Int × Int)} {c v : Int} (h : QI width ps m) (hl : lk m c = none) (h0 : 0 ≤ c ∧ c < width) : QI width (ps ++ [(c, v)]) (m ++ [(c, v)]) where
  nd := by
    rw [List.map_append, List.nodup_append]
    refine ⟨h.nd, by simp, fun a ha b hb => ?_⟩
    obtain ⟨p, hp, rfl⟩ := List.mem_map.1 ha
    simp only [List.map_cons, List.map_nil, List.mem_singleton] at hb
    subst hb
    rw [lk, Option.map_eq_none_iff, List.find?_eq_none] at hl
    exact fun e => hl p hp (by simpa using e)
  ok p hp := by
    rcases List.mem_append.1 hp with hp | hp
    · exact h.ok p hp
    · simp only [List.mem_singleton] at hp
      subst hp
      exact h0
  sub p hp := by
    rcases List.mem_append.1 hp with hp | hp
    · exact List.mem_append_left _ (h.sub p hp)
    · exact List.mem_append_right _ hp
  fits row hr p hp := by
    rcases List.mem_append.1 hp with hp | hp
    · exact h.fits row (fun q hq => hr q (List.mem_append_left _ hq)) p hp
    · exact hr p (List.mem_append_right _ hp)
theorem QI.clash {width : Nat} {ps m : List (Int × Int)} {c v n : Int} (h : QI width ps m) (hl : lk m c = some n) (hne : n ≠ v) (row : List Int) : ¬ ∀ p ∈ ps ++ [(c, v)], good row p := by
  intro hh
  have h1 := hh (c, n) (List.mem_append_left _ (h.sub _ (lk_mem hl)))
  have h2 := hh (c, v) (List.mem_append_right _ (.head _))
  exact hne (h1.2.2.symm.trans h2.2.2)
def srt (l : List Int) : List Int := l.mergeSort fun x y => decide (x ≤ y)
/-- What question answers. -/
structure QR (width : Nat) (cols key : List Int) (ls ks : List Int) (b : Bool) : Prop where
  no : b = false → ∀ row : List Int, row.length = width → ¬ fitsL row cols key
  len : ks.length = ls.length
  ok : ∀ c ∈ ls, 0 ≤ c ∧ c < width
  nd : ls.Nodup
  le : ls.length ≤ cols.length
  i64 : i64s ls ∧ i64s ks
  yes : b = true → ∀ row : List Int, row.length = width → (pickL row ls = ks ↔ fitsL row cols key)
theorem zip_take_snoc {a b : List Int} {i : Nat} (ha : i < a.length) (hb : i < b.length) : (a.zip b).take (i + 1) = (a.zip b).take i ++ [(a.getD i 0, b.getD i 0)] := by
  have h : i < (a.zip b).length := by simp; omega
  rw [List.take_add_one, List.getElem?_eq_getElem h, List.getElem_zip]
  simp [ha, hb]
theorem QR.bad {width : Nat} {cols key : List Int} (h : ∀ row : List Int, row.length = width → ¬ fitsL row cols key) : QR width cols key [] [] false :=
  ⟨fun _ => h, rfl, by simp, by simp, by simp, ⟨by simp [i64s], by simp [i64s]⟩, fun hh => by cases hh⟩
theorem fits_take {row cols key : List Int} (h : fitsL row cols key) (i : Nat) : ∀ p ∈ (cols.zip key).take i, good row p := fun p hp => h.2 p (List.mem_of_mem_take hp)
theorem QR.good {width : Nat} {cols key : List Int} {m : List (Int × Int)} (hl : cols.length = key.length) (hq : QI width (cols.zip key) m) (hc : i64s cols) (hk : i64s key) (hle : m.length ≤ cols.length) : QR width cols key (srt (m.map (·.1))) ((srt (m.map (·.1))).map fun c => (lk m c).getD 0) true := by
  have hperm : (srt (m.map (·.1))).Perm (m.map (·.1)) := List.mergeSort_perm _ _
  have hmem : ∀ c, c ∈ srt (m.map (·.1)) ↔ ∃ p ∈ m, p.1 = c := fun c => by rw [hperm.mem_iff]; simp
  refine ⟨fun h => (by cases h), by simp, fun c hc => ?_, hperm.nodup_iff.2 hq.nd, by rw [hperm.length_eq]; simpa using hle, ⟨fun n hn => ?_, fun n hn => ?_⟩, fun _ row hrow => ?_⟩
  · obtain ⟨p, hp, rfl⟩ := (hmem c).1 hc
    exact hq.ok p hp
  · obtain ⟨p, hp, rfl⟩ := (hmem n).1 hn
    exact hc _ (List.of_mem_zip (hq.sub p hp)).1
  · obtain ⟨c, hcc, rfl⟩ := List.mem_map.1 hn
    obtain ⟨p, hp, rfl⟩ := (hmem c).1 hcc
    rw [lk_of_mem hq.nd hp]
    exact hk _ (List.of_mem_zip (hq.sub p hp)).2
  · unfold pickL
    constructor
    · intro h
      refine ⟨hl, fun p hp => hq.fits row (fun q hqm => ?_) p hp⟩
      have h1 := hq.ok q hqm
      refine ⟨h1.1, by omega, ?_⟩
      have h2 := List.map_inj_left.1 h q.1 ((hmem q.1).2 ⟨q, hqm, rfl⟩)
      rw [h2, lk_of_mem hq.nd hqm]; rfl
    · intro h
      apply List.map_congr_left
      intro c hcc
      obtain ⟨p, hp, rfl⟩ := (hmem c).1 hcc
      have h1 := h.2 p (hq.sub p hp)
      rw [lk_of_mem hq.nd hp]
      exact h1.2.2

end Go.Proofs.YtgiiifadbnpfkaaGreatDoor
