/- Contracts of functions of the program: what each returns and leaves in memory. Printed by gen.py and walk.py. -/
import Derived.Test.YtijplknkpkmblaaGreatDoorM1
namespace Go.Proofs.YtijplknkpkmblaaGreatDoor
open Go Go.Hw
set_option linter.unusedSimpArgs false
set_option linter.unusedVariables false
/-! ### The document's relation as it lies -/
structure RefG where
  p : Nat
  width : Nat
  aa : Option Addr
  ac : Nat
  cols : List Col
  ia : Option Addr
  ic : Nat
  ins : List Nat
def insI (l : List Nat) : List Int := l.map fun (n : Nat) => (n : Int)
theorem insI_length (l : List Nat) : (insI l).length = l.length := by simp [insI]
abbrev rowsA (a : Option Addr) (c : Nat) (cs : List Col) : Hw.Item := row 32 1 a cs.length c (cs.map encC)
abbrev insA (a : Option Addr) (c : Nat) (l : List Nat) : Hw.Item := row 3 1 a l.length c (ints (insI l))
def refC (q : RefG) : List Value := [.int .i64 (q.width : Int), .slice q.aa q.cols.length q.ac, .slice q.ia q.ins.length q.ic]
def refA (q : RefG) : List Hw.Item := own q.p (.cells (refC q).toArray 68 (0, 0)) :: rowsA q.aa q.ac q.cols :: insA q.ia q.ic q.ins :: q.cols.flatMap colA
def refR (q : RefG) : List (List Int) := q.cols.map Col.l
def refL (q : RefG) : List (List Int × Nat) := (refR q).zip q.ins
structure RefOK (q : RefG) : Prop where
  li : q.ins.length = q.cols.length
  wid : ∀ l ∈ refR q, l.length = q.width
  i64 : ∀ l ∈ refR q, i64s l
  rl : ∀ l ∈ refR q, l.length ≤ 1099511627776
  srt : (refR q).Pairwise fun a b => cmpL a b < 0
  part : ∀ n ∈ q.ins, n = 1 ∨ n = 2 ∨ n = 4
  cl : q.cols.length ≤ 1099511627776
  wl : q.width ≤ 9223372036854775807
def RefG.empty (p wd : Nat) : RefG := ⟨p, wd, none, 0, [], none, 0, []⟩
theorem RefOK.empty {p wd : Nat} (h : wd ≤ 9223372036854775807) : RefOK (RefG.empty p wd) :=
  ⟨rfl, by simp [refR, RefG.empty], by simp [refR, RefG.empty], by simp [refR, RefG.empty], by simp [refR, RefG.empty], by simp [RefG.empty], by simp [RefG.empty], h⟩
/-- Where a row stands, or would stand. -/
structure PlaceOK (rows : List (List Int)) (l : List Int) (at_ : Nat) (th : Bool) : Prop where
  le : at_ ≤ rows.length
  lt : ∀ (j : Nat) (r : List Int), j < at_ → rows[j]? = some r → cmpL r l < 0
  ge : ∀ r, rows[at_]? = some r → 0 ≤ cmpL r l
  th : th = true ↔ rows[at_]? = some l
theorem PlaceOK.mem {rows : List (List Int)} {l : List Int} {k : Nat} {th : Bool} (h : PlaceOK rows l k th) (hs : rows.Pairwise fun a b => cmpL a b < 0) : th = true ↔ l ∈ rows := by
  rw [h.th]
  constructor
  · exact fun h1 => List.mem_of_getElem? h1
  · intro hl
    obtain ⟨j, hj⟩ := List.mem_iff_getElem?.1 hl
    have hjl := (List.getElem?_eq_some_iff.1 hj).1
    rcases Nat.lt_trichotomy j k with h1 | h1 | h1
    · have := h.lt j l h1 hj
      rw [cmpL_self] at this
      omega
    · rw [← h1]; exact hj
    · have hk : k < rows.length := by omega
      have h2 := h.ge _ (List.getElem?_eq_getElem hk)
      obtain ⟨_, rfl⟩ := List.getElem?_eq_some_iff.1 hj
      have h3 := List.pairwise_iff_getElem.1 hs k j hk hjl h1
      omega

set_option maxRecDepth 10000 in
theorem refNew_neg (wd : Int) (h : wd < 0) (w : World) : Calls Tryz.prog 12 #[.int .i64 wd] w fun e w' => e = .returned (.tuple #[.pointer none, .int .i64 71]) ∧ Fr0 w w' := by
  refine enterS (args := [.int .i64 wd]) (fun _ => False) Tryz.func12 rfl Tryz.ntmps12 rfl rfl ?_
  refine WC.seq ?_
  refine WC.region ?_
  refine WL.val (OV.assign rfl) rfl ?_
  refine WL.val (OV.assign rfl) rfl ?_
  refine WL.nil ?_
  refine WX.next ?_
  refine WC.seq ?_
  refine WC.seq ?_
  refine WC.region ?_
  refine WL.val (OV.move rfl) rfl ?_
  refine WL.val (OV.lss rfl rfl) rfl ?_
  refine WL.nil ?_
  refine WX.next ?_
  refine WC.condT (show _ = some (Value.bool true) from by exact congrArg (fun b => some (Value.bool b)) (decide_eq_true h)) ?_
  refine WC.seq ?_
  refine WC.region ?_
  refine WL.val (OV.assign rfl) rfl ?_
  refine WL.val (OV.assign rfl) rfl ?_
  refine WL.nil ?_
  refine WX.next ?_
  refine WC.ret ?_
  refine WX.then_ret ?_
  exact WX.ret2 rfl rfl rfl rfl (fun w hw => ⟨rfl, hw.fr⟩)

set_option maxRecDepth 10000 in
theorem refNew_calls (wd : Nat) (w : World) : Calls Tryz.prog 12 #[.int .i64 (wd : Int)] w fun e w' => ∃ p, e = .returned (.tuple #[ptr p, .int .i64 0]) ∧ Turns [] (refA (RefG.empty p wd)) w w' := by
  refine enterS (args := [.int .i64 (wd : Int)]) (fun _ => False) Tryz.func12 rfl Tryz.ntmps12 rfl rfl ?_
  refine WC.seq ?_
  refine WC.region ?_
  refine WL.val (OV.assign rfl) rfl ?_
  refine WL.val (OV.assign rfl) rfl ?_
  refine WL.nil ?_
  refine WX.next ?_
  refine WC.seq ?_
  refine WC.seq ?_
  refine WC.region ?_
  refine WL.val (OV.move rfl) rfl ?_
  refine WL.val (OV.lss rfl rfl) rfl ?_
  refine WL.nil ?_
  refine WX.next ?_
  refine WC.condF (show _ = some (Value.bool false) from by exact congrArg (fun b => some (Value.bool b)) (decide_eq_false (by omega))) ?_
  refine WC.skip ?_
  refine WX.next ?_
  refine WC.seq ?_
  refine WC.region ?_
  refine WL.val (OV.move rfl) rfl ?_
  refine WL.val (OV.buildStruct (xs := [(0, .tmp 6)]) (pl := [(0, 1), (1, 1), (2, 1)]) (cs := [.int .i64 (wd : Int), .slice none 0 0, .slice none 0 0]) T.u68 T.zr68 (by kernel_rfl) rfl (fill_cons (us := [_]) rfl rfl (by first | decide | simp) rfl)) rfl ?_
  refine WL.box rfl rfl rfl ?_
  intro bb8
  refine WL.val (OV.assign rfl) rfl ?_
  refine WL.val (OV.assign rfl) rfl ?_
  refine WL.nil ?_
  refine WX.next ?_
  refine WC.ret ?_
  exact WX.ret2 rfl rfl rfl rfl (fun w' hw => ⟨bb8, rfl, (((hw.rowNil 3 1).rowNil 32 1).perm (perm_pick [_, _, _] [2, 0, 1] (by decide) rfl)).turned0⟩)

set_option maxRecDepth 10000 in
theorem order_calls (l m : List Int) (a1 a2 : Option Addr) (n1 c1 n2 c2 : Nat) (h1 : n1 ≤ 1099511627776) (h2 : n2 ≤ 1099511627776) (hlm : l.length = m.length) (w : World) (hr1 : RI w a1 n1 l) (hr2 : RI w a2 n2 m) : Calls Tryz.prog 49 #[.slice a1 n1 c1, .slice a2 n2 c2] w fun e w' => e = .returned (.int .i64 (cmpL l m)) ∧ Fr0 w w' := by
  refine enterS (args := [.slice a1 n1 c1, .slice a2 n2 c2]) (fun _ => False) Tryz.func49 rfl Tryz.ntmps49 rfl rfl ?_
  refine WC.seq ?_
  refine WC.region ?_
  refine WL.val (OV.assign rfl) rfl ?_
  refine WL.nil ?_
  refine WX.next ?_
  refine WC.seq ?_
  refine WC.seq ?_
  refine WC.region ?_
  refine WL.val (OV.assign rfl) rfl ?_
  refine WL.nil ?_
  refine WX.next ?_
  refine WC.block ?_
  have e1 := hr1.1
  have e2 := hr2.1
  refine WC.loop1 (fun (i : Nat) => [(0, .slice a1 n1 c1), (1, .slice a2 n2 c2), (5, .int .i64 (i : Int))])
      (fun i w' => (i ≤ n1 ∧ cmpL l m = cmpL (l.drop i) (m.drop i)) ∧ Sat w (fun _ => False) (fun b => b < w.heap.size) w [] w')
      (fun i => n1 - i) 0 ⟨rfl, rfl, rfl, trivial⟩ (fun w' hw => ⟨⟨by omega, rfl⟩, hw⟩) ?_
  intro i
  refine WC.pure (fun hi => ?_)
  obtain ⟨hi, hpre⟩ := hi
  refine WC.seq ?_
  refine WC.seq ?_
  refine WC.region ?_
  refine WL.val (OV.move rfl) rfl ?_
  refine WL.val (OV.move rfl) rfl ?_
  first
  | (refine WL.val (OV.lenSlice rfl T.u32) rfl ?_)
  | (refine WL.val (OV.lenStr rfl T.u32) rfl ?_)
  refine WL.val (OV.lss rfl rfl) rfl ?_
  refine WL.val (OV.move rfl) rfl ?_
  refine WL.split (t := 10) rfl (fun g10 => ?_) (fun g10 => ?_)
  · try simp only [decide_eq_true_eq, decide_eq_false_iff_not, Bool.not_eq_true', Bool.not_eq_false'] at g10
    refine WL.go (b := true) rfl rfl rfl ?_
    refine WL.val (OV.move rfl) rfl ?_
    refine WL.go (b := true) rfl rfl rfl ?_
    refine WL.val (OV.move rfl) rfl ?_
    refine WL.go (b := true) rfl rfl rfl ?_
    first
    | (refine WL.val (OV.lenSlice rfl T.u32) rfl ?_)
    | (refine WL.val (OV.lenStr rfl T.u32) rfl ?_)
    refine WL.go (b := true) rfl rfl rfl ?_
    refine WL.val (OV.lss rfl rfl) rfl ?_
    refine WL.val (OV.pickT rfl rfl) rfl ?_
    refine WL.nil ?_
    refine WX.next ?_
    refine WC.cond rfl (fun c15 => ?_) (fun c15 => ?_)
    · try simp only [decide_eq_true_eq, decide_eq_false_iff_not, Bool.not_eq_true', Bool.not_eq_false'] at c15
      refine WC.skip ?_
      refine WX.next ?_
      refine WC.seq ?_
      refine WC.block ?_
      refine WC.seq ?_
      refine WC.seq ?_
      refine WC.quietS (by kernel_rfl) (by kernel_rfl) (m := 9) rfl ?_
      refine WH.free 0 rfl (by kernel_rfl) (by kernel_rfl) (by kernel_rfl) rfl (fun _ => (fun _ h => h)) (OV.move rfl) rfl (listed' := [true, false, false, false, false, false, false, false, false]) rfl ?_
      refine WH.free 1 rfl (by kernel_rfl) (by kernel_rfl) (by kernel_rfl) rfl (fun _ => (fun _ h => h)) (OV.move rfl) rfl (listed' := [true, true, false, false, false, false, false, false, false]) rfl ?_
      have hil : i < l.length := by omega
      have him : i < m.length := by omega
      obtain ⟨q1, rfl⟩ := hr1.some (by omega)
      obtain ⟨q2, rfl⟩ := hr2.some (by omega)
      refine WH.free 2 rfl (by kernel_rfl) (by kernel_rfl) (by kernel_rfl) rfl (fun _ => (fun _ h => h)) (OV.indexSliceA (i := i) rfl rfl T.u32 T.z3 (by omega)) rfl (listed' := [true, true, true, false, false, false, false, false, false]) rfl ?_
      refine WH.take 3 rfl (by kernel_rfl) (by kernel_rfl) (by kernel_rfl) (by kernel_rfl) (fun _ h => h) (OV.load1 (v := .int .i64 (l.getD i 0)) rfl T.u3 rfl (fun _ hw => (hr1.sat hw).cell hil)) rfl (listed' := [true, true, true, true, false, false, false, false, false]) rfl ?_
      refine WH.free 4 rfl (by kernel_rfl) (by kernel_rfl) (by kernel_rfl) rfl (fun _ => (fun _ h => h)) (OV.move rfl) rfl (listed' := [true, true, true, true, true, false, false, false, false]) rfl ?_
      refine WH.free 5 rfl (by kernel_rfl) (by kernel_rfl) (by kernel_rfl) rfl (fun _ => (fun _ h => h)) (OV.move rfl) rfl (listed' := [true, true, true, true, true, true, false, false, false]) rfl ?_
      refine WH.free 6 rfl (by kernel_rfl) (by kernel_rfl) (by kernel_rfl) rfl (fun _ => (fun _ h => h)) (OV.indexSliceA (i := i) rfl rfl T.u32 T.z3 (by omega)) rfl (listed' := [true, true, true, true, true, true, true, false, false]) rfl ?_
      refine WH.take 7 rfl (by kernel_rfl) (by kernel_rfl) (by kernel_rfl) (by kernel_rfl) (fun _ h => h) (OV.load1 (v := .int .i64 (m.getD i 0)) rfl T.u3 rfl (fun _ hw => (hr2.sat hw).cell him)) rfl (listed' := [true, true, true, true, true, true, true, true, false]) rfl ?_
      refine WH.free 8 rfl (by kernel_rfl) (by kernel_rfl) (by kernel_rfl) rfl (fun _ => (fun _ h => h)) (OV.lss rfl rfl) rfl (listed' := [true, true, true, true, true, true, true, true, true]) rfl ?_
      refine WH.done (by kernel_rfl) ?_
      refine WX.next ?_
      refine WC.cond rfl (fun c26 => ?_) (fun c26 => ?_)
      · try simp only [decide_eq_true_eq, decide_eq_false_iff_not, Bool.not_eq_true', Bool.not_eq_false'] at c26
        refine WC.seq ?_
        refine WC.region ?_
        refine WL.val (OV.assign rfl) rfl ?_
        refine WL.nil ?_
        refine WX.next ?_
        refine WC.ret ?_
        refine WX.then_ret ?_
        refine WX.block_ret ?_
        refine WX.then_ret ?_
        refine WX.then_ret ?_
        refine WX.block_ret ?_
        refine WX.then_ret ?_
        exact WX.ret1 rfl rfl rfl (fun w' hw => ⟨by congr 2; rw [cmpL_drop hil him hpre, if_pos (by omega)], hw.fr⟩)
      · try simp only [decide_eq_true_eq, decide_eq_false_iff_not, Bool.not_eq_true', Bool.not_eq_false'] at c26
        refine WC.skip ?_
        refine WX.next ?_
        refine WC.seq ?_
        refine WC.quietS (by kernel_rfl) (by kernel_rfl) (m := 9) rfl ?_
        refine WH.free 0 rfl (by kernel_rfl) (by kernel_rfl) (by kernel_rfl) rfl (fun _ => (fun _ h => h)) (OV.move rfl) rfl (listed' := [true, false, false, false, false, false, false, false, false]) rfl ?_
        refine WH.free 1 rfl (by kernel_rfl) (by kernel_rfl) (by kernel_rfl) rfl (fun _ => (fun _ h => h)) (OV.move rfl) rfl (listed' := [true, true, false, false, false, false, false, false, false]) rfl ?_
        refine WH.free 2 rfl (by kernel_rfl) (by kernel_rfl) (by kernel_rfl) rfl (fun _ => (fun _ h => h)) (OV.indexSliceA (i := i) rfl rfl T.u32 T.z3 (by omega)) rfl (listed' := [true, true, true, false, false, false, false, false, false]) rfl ?_
        refine WH.take 3 rfl (by kernel_rfl) (by kernel_rfl) (by kernel_rfl) (by kernel_rfl) (fun _ h => h) (OV.load1 (v := .int .i64 (l.getD i 0)) rfl T.u3 rfl (fun _ hw => (hr1.sat hw).cell hil)) rfl (listed' := [true, true, true, true, false, false, false, false, false]) rfl ?_
        refine WH.free 4 rfl (by kernel_rfl) (by kernel_rfl) (by kernel_rfl) rfl (fun _ => (fun _ h => h)) (OV.move rfl) rfl (listed' := [true, true, true, true, true, false, false, false, false]) rfl ?_
        refine WH.free 5 rfl (by kernel_rfl) (by kernel_rfl) (by kernel_rfl) rfl (fun _ => (fun _ h => h)) (OV.move rfl) rfl (listed' := [true, true, true, true, true, true, false, false, false]) rfl ?_
        refine WH.free 6 rfl (by kernel_rfl) (by kernel_rfl) (by kernel_rfl) rfl (fun _ => (fun _ h => h)) (OV.indexSliceA (i := i) rfl rfl T.u32 T.z3 (by omega)) rfl (listed' := [true, true, true, true, true, true, true, false, false]) rfl ?_
        refine WH.take 7 rfl (by kernel_rfl) (by kernel_rfl) (by kernel_rfl) (by kernel_rfl) (fun _ h => h) (OV.load1 (v := .int .i64 (m.getD i 0)) rfl T.u3 rfl (fun _ hw => (hr2.sat hw).cell him)) rfl (listed' := [true, true, true, true, true, true, true, true, false]) rfl ?_
        refine WH.free 8 rfl (by kernel_rfl) (by kernel_rfl) (by kernel_rfl) rfl (fun _ => (fun _ h => h)) (OV.gtr rfl rfl) rfl (listed' := [true, true, true, true, true, true, true, true, true]) rfl ?_
        refine WH.done (by kernel_rfl) ?_
        refine WX.next ?_
        refine WC.cond rfl (fun c35 => ?_) (fun c35 => ?_)
        · try simp only [decide_eq_true_eq, decide_eq_false_iff_not, Bool.not_eq_true', Bool.not_eq_false'] at c35
          refine WC.seq ?_
          refine WC.region ?_
          refine WL.val (OV.assign rfl) rfl ?_
          refine WL.nil ?_
          refine WX.next ?_
          refine WC.ret ?_
          refine WX.block_ret ?_
          refine WX.then_ret ?_
          refine WX.then_ret ?_
          refine WX.block_ret ?_
          refine WX.then_ret ?_
          exact WX.ret1 rfl rfl rfl (fun w' hw => ⟨by congr 2; rw [cmpL_drop hil him hpre, if_neg (by omega), if_pos (by omega)], hw.fr⟩)
        · try simp only [decide_eq_true_eq, decide_eq_false_iff_not, Bool.not_eq_true', Bool.not_eq_false'] at c35
          refine WC.skip ?_
          refine WX.block_normal ?_
          refine WX.next ?_
          refine WC.region ?_
          refine WL.val (OV.move rfl) rfl ?_
          first
          | (refine WL.val (OV.addI rfl rfl (by omega)) rfl ?_)
          | (refine WL.val (OV.add rfl rfl) rfl ?_)
          refine WL.val (OV.assign rfl) rfl ?_
          refine WL.nil ?_
          have hst := cmpL_drop hil him hpre
          rw [if_neg (by omega), if_neg (by omega)] at hst
          exact WX.round1 (i + 1) ⟨rfl, rfl, rfl, trivial⟩ (fun w' hw => ⟨⟨by omega, hst⟩, hw⟩) (by show n1 - (i + 1) < n1 - i; omega)
    · try simp only [decide_eq_true_eq, decide_eq_false_iff_not, Bool.not_eq_true', Bool.not_eq_false'] at c15
      refine WC.exit ?_
      refine WX.then_exit ?_
      refine WX.then_exit ?_
      refine WX.block_hit ?_
      refine WX.next ?_
      refine WC.seq ?_
      refine WC.region ?_
      refine WL.val (OV.assign rfl) rfl ?_
      refine WL.nil ?_
      refine WX.next ?_
      refine WC.ret ?_
      exact WX.ret1 rfl rfl rfl (fun w' hw => ⟨by congr 2; rw [hpre, List.drop_eq_nil_of_le (by omega), List.drop_eq_nil_of_le (by omega)]; rfl, hw.fr⟩)
  · try simp only [decide_eq_true_eq, decide_eq_false_iff_not, Bool.not_eq_true', Bool.not_eq_false'] at g10
    refine WL.skip (b := false) rfl rfl rfl rfl ?_
    refine WL.skip (b := false) rfl rfl rfl rfl ?_
    refine WL.skip (b := false) rfl rfl rfl rfl ?_
    refine WL.skip (b := false) rfl rfl rfl rfl ?_
    refine WL.val (OV.pickF rfl rfl) rfl ?_
    refine WL.nil ?_
    refine WX.next ?_
    refine WC.condF rfl ?_
    refine WC.exit ?_
    refine WX.then_exit ?_
    refine WX.then_exit ?_
    refine WX.block_hit ?_
    refine WX.next ?_
    refine WC.seq ?_
    refine WC.region ?_
    refine WL.val (OV.assign rfl) rfl ?_
    refine WL.nil ?_
    refine WX.next ?_
    refine WC.ret ?_
    exact WX.ret1 rfl rfl rfl (fun w' hw => ⟨by congr 2; rw [hpre, List.drop_eq_nil_of_le (by omega), List.drop_eq_nil_of_le (by omega)]; rfl, hw.fr⟩)

set_option maxRecDepth 10000 in
theorem copied_calls (l : List Int) (a : Option Addr) (m c : Nat) (hm : m ≤ 1099511627776) (w : World) (hr : RI w a m l) : Calls Tryz.prog 39 #[.slice a m c] w fun e w' => ∃ y : Col, e = .returned (encC y) ∧ y.l = l ∧ Fr0 w w' ∧ New w w' (row 3 1 y.a y.l.length y.c (ints y.l)) := by
  refine enterS (args := [.slice a m c]) (fun _ => False) Tryz.func39 rfl Tryz.ntmps39 rfl rfl ?_
  refine WC.seq ?_
  refine WC.region ?_
  refine WL.val (OV.assign rfl) rfl ?_
  refine WL.nil ?_
  refine WX.next ?_
  refine WC.seq ?_
  refine WC.region ?_
  refine WL.val (OV.assign rfl) rfl ?_
  refine WL.nil ?_
  refine WX.next ?_
  refine WC.seq ?_
  have hml := hr.1
  refine WC.weak (S' := Sat w (fun _ => False) (fun b => b < w.heap.size) w ([row 3 1 none 0 0 []])) (fun w' hw => hw.rowNil 3 1) ?_
  refine WC.region ?_
  refine WL.val (OV.move rfl) rfl ?_
  refine WL.val (OV.move rfl) rfl ?_
  refine WL.append (news := ints l) rfl rfl T.apI (fun _ hw => Src.of_ri hml hr.2.1 (fun _ hw => hr.keeps hw.keeps)) (ints_one _) ⟨by omega, by unfold maxLen; omega⟩ rfl ?_
  intro a6 c6
  rw [Nat.zero_add]
  refine WL.val (OV.assign rfl) rfl ?_
  refine WL.nil ?_
  refine WX.next ?_
  refine WC.ret ?_
  subst hml
  exact WX.ret1 rfl rfl rfl (fun w' hw => ⟨⟨a6, c6, l⟩, rfl, rfl, hw.fr, hw.new0 (.head _)⟩)

theorem row_cellsφE {w : World} {T : TypeId} {size : Nat} {a : Option Addr} {q : Addr} {m cap : Nat} {xs : List Value} (hq : a = some q) (h : (row T size a m cap xs).φ w) : ∀ j u, xs[j]? = some u → w.cell? (q.add j) = some u := by
  subst hq
  intro j u hj
  have h1 : w.ownsRow 0 T size (.slice (some q) m cap) m xs := h
  have h2 := h1.cells (g := q.block) rfl j u hj
  rcases h1.2 with ⟨hv, _⟩ | ⟨g, c, cur, hv, _⟩
  · cases hv
  · simp only [Value.slice.injEq, Option.some.injEq] at hv
    rw [hv.1] at h2 ⊢
    exact h2
theorem row_cellsE {w0 ws w : World} {M I : Nat → Prop} {ow : List Hw.Item} (h : Sat w0 M I ws ow w) {T : TypeId} {size : Nat} {a : Option Addr} {q : Addr} {m cap : Nat} {xs : List Value} (hq : a = some q) (hm : row T size a m cap xs ∈ ow) : ∀ j u, xs[j]? = some u → w.cell? (q.add j) = some u :=
  row_cellsφE hq (h.it _ hm)
theorem refA_row {q : RefG} {w : World} (h : Holds (refA q) w) {i : Nat} {y : Col} (hy : q.cols[i]? = some y) : ∃ b, q.aa = some ⟨b, 0, none⟩ ∧ w.cell? ⟨b, i, none⟩ = some (encC y) ∧ RI w y.a y.l.length y.l := by
  have hi := (List.getElem?_eq_some_iff.1 hy).1
  obtain ⟨b, hb⟩ := row_addr (h.φ _ (.tail _ (.head _))) (show 0 < q.cols.length by omega)
  have h1 := row_cellsφE hb (h.φ _ (.tail _ (.head _))) i (encC y) (by rw [List.getElem?_map, hy]; rfl)
  rw [add_off, Nat.zero_add] at h1
  have hm : row 3 1 y.a y.l.length y.c (ints y.l) ∈ refA q := .tail _ (.tail _ (.tail _ (List.mem_flatMap.2 ⟨y, List.mem_of_getElem? hy, .head _⟩)))
  have hS : Sat w (DD (refA q)) (fun b => b < w.heap.size ∧ ¬ DD (refA q) b) w (refA q) w := Sat.startA h
  exact ⟨b, hb, h1, RI.of_row hS hm⟩

set_option maxRecDepth 10000 in
theorem place_calls (q : RefG) (ok : RefOK q) (l : List Int) (a : Option Addr) (m c : Nat) (hl : l.length = q.width) (hm : m ≤ 1099511627776) (w : World) (hr : RI w a m l) (hA : Holds (refA q) w) : Calls Tryz.prog 38 #[ptr q.p, .slice a m c] w fun e w' => ∃ k th, e = .returned (.tuple #[.int .i64 ((k : Nat) : Int), .bool th]) ∧ PlaceOK (refR q) l k th ∧ Fr0 w w' := by
  refine enterS (args := [ptr q.p, .slice a m c]) (fun _ => False) Tryz.func38 rfl Tryz.ntmps38 rfl rfl ?_
  refine WC.seq ?_
  refine WC.region ?_
  refine WL.val (OV.assign rfl) rfl ?_
  refine WL.val (OV.assign rfl) rfl ?_
  refine WL.nil ?_
  refine WX.next ?_
  refine WC.seq ?_
  refine WC.seq ?_
  refine WC.region ?_
  refine WL.val (OV.assign rfl) rfl ?_
  refine WL.nil ?_
  refine WX.next ?_
  refine WC.block ?_
  have hcl := ok.cl
  refine WC.loop1 (fun (i : Nat) => [(0, ptr q.p), (1, .slice a m c), (6, .int .i64 (i : Int))])
      (fun i w' => (i ≤ q.cols.length ∧ ∀ (j : Nat) (r : List Int), j < i → (refR q)[j]? = some r → cmpL r l < 0) ∧ Sat w (fun _ => False) (fun b => b < w.heap.size) w [] w')
      (fun i => q.cols.length - i) 0 ⟨rfl, rfl, rfl, trivial⟩ (fun w' hw => ⟨⟨by omega, by intro j r hj; omega⟩, hw⟩) ?_
  intro i
  refine WC.pure (fun hi => ?_)
  obtain ⟨hi, hlt⟩ := hi
  refine WC.seq ?_
  refine WC.seq ?_
  refine WC.region ?_
  refine WL.val (OV.move rfl) rfl ?_
  refine WL.val (OV.move rfl) rfl ?_
  refine WL.val (OV.nilCheck rfl) rfl ?_
  first
  | (refine WL.val (OV.fieldAddr0 (off := 1) rfl T.u68 rfl) rfl ?_)
  | (refine WL.val (OV.fieldAddr (off := 1) rfl T.u68 rfl) rfl ?_)
  refine WL.val (OV.load1 (v := .slice q.aa q.cols.length q.ac) rfl T.u48 rfl (fun _ hw => hw.keeps _ _ (cell_at (hA.φ _ (.head _)) (o := 1) rfl).1)) rfl ?_
  first
  | (refine WL.val (OV.lenSlice rfl T.u48) rfl ?_)
  | (refine WL.val (OV.lenStr rfl T.u48) rfl ?_)
  refine WL.val (OV.lss rfl rfl) rfl ?_
  refine WL.nil ?_
  refine WX.next ?_
  refine WC.cond rfl (fun c14 => ?_) (fun c14 => ?_)
  · try simp only [decide_eq_true_eq, decide_eq_false_iff_not, Bool.not_eq_true', Bool.not_eq_false'] at c14
    refine WC.skip ?_
    refine WX.next ?_
    refine WC.seq ?_
    refine WC.block ?_
    refine WC.seq ?_
    refine WC.region ?_
    refine WL.val (OV.move rfl) rfl ?_
    refine WL.val (OV.nilCheck rfl) rfl ?_
    first
    | (refine WL.val (OV.fieldAddr0 (off := 1) rfl T.u68 rfl) rfl ?_)
    | (refine WL.val (OV.fieldAddr (off := 1) rfl T.u68 rfl) rfl ?_)
    refine WL.val (OV.load1 (v := .slice q.aa q.cols.length q.ac) rfl T.u48 rfl (fun _ hw => hw.keeps _ _ (cell_at (hA.φ _ (.head _)) (o := 1) rfl).1)) rfl ?_
    refine WL.val (OV.move rfl) rfl ?_
    obtain ⟨y, hy, hym, hyl⟩ := col_at (ys := q.cols) rfl (k := i) (by omega)
    obtain ⟨b0, hb0, hyc, hyr⟩ := refA_row hA hy
    have hylw := ok.wid y.l (List.mem_map.2 ⟨y, hym, rfl⟩)
    have hyrl := ok.rl y.l (List.mem_map.2 ⟨y, hym, rfl⟩)
    refine WL.val (OV.indexSliceA (a := ⟨b0, 0, none⟩) (i := i) (show _ = some (Value.slice (some ⟨b0, 0, none⟩) q.cols.length q.ac) by rw [← hb0]; rfl) rfl T.u48 T.z32 (by omega)) rfl ?_
    refine WL.val (OV.load1 (v := encC y) rfl T.u32 rfl (fun _ hw => hw.keeps _ _ (by rw [add_off, Nat.zero_add]; exact hyc))) rfl ?_
    refine WL.val (OV.move rfl) rfl ?_
    refine WL.call0 (v := .int .i64 (cmpL y.l l)) (vs := [encC y, .slice a m c]) (by kernel_rfl) rfl rfl (fun w' hw' => order_calls y.l l y.a a y.l.length y.c m c hyrl hm (hylw.trans hl.symm) w' (hyr.keeps hw'.keeps) (hr.keeps hw'.keeps)) ?_
    refine WL.val (OV.assign rfl) rfl ?_
    refine WL.nil ?_
    refine WX.next ?_
    refine WC.seq ?_
    refine WC.region ?_
    refine WL.val (OV.move rfl) rfl ?_
    refine WL.val (OV.geq rfl rfl) rfl ?_
    refine WL.nil ?_
    refine WX.next ?_
    refine WC.cond rfl (fun c27 => ?_) (fun c27 => ?_)
    · try simp only [decide_eq_true_eq, decide_eq_false_iff_not, Bool.not_eq_true', Bool.not_eq_false'] at c27
      refine WC.seq ?_
      refine WC.region ?_
      refine WL.val (OV.move rfl) rfl ?_
      refine WL.val (OV.move rfl) rfl ?_
      refine WL.val (OV.eql rfl rfl) rfl ?_
      refine WL.val (OV.assign rfl) rfl ?_
      refine WL.val (OV.assign rfl) rfl ?_
      refine WL.nil ?_
      refine WX.next ?_
      refine WC.ret ?_
      refine WX.block_ret ?_
      refine WX.then_ret ?_
      refine WX.then_ret ?_
      refine WX.block_ret ?_
      refine WX.then_ret ?_
      exact WX.ret2 rfl rfl rfl rfl (fun w' hw => ⟨i, decide (cmpL y.l l = 0), rfl, ⟨by rw [refR, List.length_map]; omega, hlt, fun r hr => by have := Option.some.inj (hyl.symm.trans hr); rw [← this]; omega, by
        rw [decide_eq_true_eq, show (refR q)[i]? = some y.l from hyl, Option.some.injEq]
        exact ⟨fun h => cmpL_eq h, fun h => by rw [h, cmpL_self]⟩⟩, hw.fr⟩)
    · try simp only [decide_eq_true_eq, decide_eq_false_iff_not, Bool.not_eq_true', Bool.not_eq_false'] at c27
      refine WC.skip ?_
      refine WX.block_normal ?_
      refine WX.next ?_
      refine WC.region ?_
      refine WL.val (OV.move rfl) rfl ?_
      first
      | (refine WL.val (OV.addI rfl rfl (by omega)) rfl ?_)
      | (refine WL.val (OV.add rfl rfl) rfl ?_)
      refine WL.val (OV.assign rfl) rfl ?_
      refine WL.nil ?_
      exact WX.round1 (i + 1) ⟨rfl, rfl, rfl, trivial⟩ (fun w' hw => ⟨⟨by omega, fun j r hj hr => by
        by_cases hji : j = i
        · subst hji
          have := Option.some.inj (hyl.symm.trans hr)
          rw [← this]; omega
        · exact hlt j r (by omega) hr⟩, hw⟩) (by show q.cols.length - (i + 1) < q.cols.length - i; omega)
  · try simp only [decide_eq_true_eq, decide_eq_false_iff_not, Bool.not_eq_true', Bool.not_eq_false'] at c14
    refine WC.exit ?_
    refine WX.then_exit ?_
    refine WX.then_exit ?_
    refine WX.block_hit ?_
    refine WX.next ?_
    refine WC.seq ?_
    refine WC.region ?_
    refine WL.val (OV.move rfl) rfl ?_
    refine WL.val (OV.nilCheck rfl) rfl ?_
    first
    | (refine WL.val (OV.fieldAddr0 (off := 1) rfl T.u68 rfl) rfl ?_)
    | (refine WL.val (OV.fieldAddr (off := 1) rfl T.u68 rfl) rfl ?_)
    refine WL.val (OV.load1 (v := .slice q.aa q.cols.length q.ac) rfl T.u48 rfl (fun _ hw => hw.keeps _ _ (cell_at (hA.φ _ (.head _)) (o := 1) rfl).1)) rfl ?_
    first
    | (refine WL.val (OV.lenSlice rfl T.u48) rfl ?_)
    | (refine WL.val (OV.lenStr rfl T.u48) rfl ?_)
    refine WL.val (OV.assign rfl) rfl ?_
    refine WL.val (OV.assign rfl) rfl ?_
    refine WL.nil ?_
    refine WX.next ?_
    refine WC.ret ?_
    have hie : i = q.cols.length := by omega
    exact WX.ret2 rfl rfl rfl rfl (fun w' hw => ⟨q.cols.length, false, rfl, ⟨by simp [refR], fun j r hj => hlt j r (by omega), fun r hr => (by rw [List.getElem?_eq_none (by simp [refR])] at hr; cases hr), by rw [List.getElem?_eq_none (by simp [refR])]; simp⟩, hw.fr⟩)

end Go.Proofs.YtijplknkpkmblaaGreatDoor
