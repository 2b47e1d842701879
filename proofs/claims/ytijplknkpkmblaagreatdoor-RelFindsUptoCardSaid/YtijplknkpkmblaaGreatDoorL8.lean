/- Contracts of functions of the program: what each returns and leaves in memory. Printed by gen.py and walk.py. -/
import Derived.Test.YtijplknkpkmblaaGreatDoorL7
namespace Go.Proofs.YtijplknkpkmblaaGreatDoor
open Go Go.Hw
set_option linter.unusedSimpArgs false
set_option linter.unusedVariables false
/-! ### Rows that lie anywhere -/
theorem RI.some {w : World} {a : Option Addr} {m : Nat} {l : List Int} (h : RI w a m l) (hp : 0 < m) : ∃ q, a = Option.some q := by
  cases a with
  | none => have := h.2.1 rfl; omega
  | some q => exact ⟨q, rfl⟩
theorem RI.keeps {w w' : World} {a : Option Addr} {m : Nat} {l : List Int} (h : RI w a m l) (k : Keeps w w') : RI w' a m l := h.mono fun q v _ hc => k q v hc
/-- A list of rows. -/
structure RLi (w : World) (a : Option Addr) (n : Nat) (ls : List (List Int)) : Prop where
  len : ls.length = n
  nil : a = none → n = 0
  big : n ≤ 1099511627776
  at_ : ∀ q, a = Option.some q → ∀ i l, ls[i]? = Option.some l → ∃ a' c', w.cell? (q.add i) = Option.some (.slice a' l.length c') ∧ RI w a' l.length l
  lens : ∀ l ∈ ls, l.length ≤ 1099511627776
  i64 : ∀ l ∈ ls, i64s l
theorem RLi.keeps {w w' : World} {a : Option Addr} {n : Nat} {ls : List (List Int)} (h : RLi w a n ls) (k : Keeps w w') : RLi w' a n ls :=
  ⟨h.len, h.nil, h.big, fun q hq i l hl => by
    obtain ⟨a', c', h1, h2⟩ := h.at_ q hq i l hl
    exact ⟨a', c', k _ _ h1, h2.keeps k⟩, h.lens, h.i64⟩
theorem RLi.get {w : World} {a : Option Addr} {n : Nat} {ls : List (List Int)} (h : RLi w a n ls) {i : Nat} (hi : i < n) : ∃ q l a' c', a = Option.some q ∧ ls[i]? = Option.some l ∧ l ∈ ls ∧ w.cell? (q.add i) = Option.some (.slice a' l.length c') ∧ RI w a' l.length l := by
  cases a with
  | none => have := h.nil rfl; omega
  | some q =>
    have hl : i < ls.length := by rw [h.len]; exact hi
    obtain ⟨a', c', h1, h2⟩ := h.at_ q rfl i _ (List.getElem?_eq_getElem hl)
    exact ⟨q, ls[i], a', c', rfl, List.getElem?_eq_getElem hl, List.getElem_mem hl, h1, h2⟩
theorem RLi.of_lst {w0 ws w : World} {M I : Nat → Prop} {ow : List Hw.Item} {a : Option Addr} {c : Nat} {ys : List Col} (hw : Sat w0 M I ws ow w) (hm : ∀ i ∈ lstA a c ys, i ∈ ow) (hb : ys.length ≤ 1099511627776) (hl : ∀ l ∈ ys.map Col.l, l.length ≤ 1099511627776) (hi : ∀ l ∈ ys.map Col.l, i64s l) : RLi w a ys.length (ys.map Col.l) := by
  have hrow := hm _ (.head _)
  refine ⟨by simp, fun ha => (row_base hw hrow).2.elim (fun h => h.2.1) (fun ⟨b, hb, _⟩ => (by rw [ha] at hb; cases hb)), hb, fun q hq i l hl' => ?_, hl, hi⟩
  subst hq
  rw [List.getElem?_map, Option.map_eq_some_iff] at hl'
  obtain ⟨x, hx, rfl⟩ := hl'
  refine ⟨x.a, x.c, row_cells hw hrow i _ (by rw [List.getElem?_map, hx]; rfl), RI.of_row (c := x.c) hw (hm _ (.tail _ (List.mem_flatMap.2 ⟨x, List.mem_of_getElem? hx, .head _⟩)))⟩
def smallN (n : Int) : Nat := (n.tmod 6).natAbs
theorem tmod6 (n : Int) : -6 < n.tmod 6 ∧ n.tmod 6 < 6 := by
  have h1 := Int.tmod_lt_of_pos n (by decide : (0:Int) < 6)
  have h2 := Int.tmod_lt_of_pos (-n) (by decide : (0:Int) < 6)
  rw [Int.neg_tmod] at h2
  omega
theorem smallN_le (n : Int) : smallN n ≤ 5 := by
  unfold smallN
  have := tmod6 n
  omega
theorem take_ext {l m : List Int} {i : Nat} (h1 : l.length = m.length) (h : l.take i = m.take i) (hi : l.length ≤ i) : l = m := by
  rwa [List.take_of_length_le hi, List.take_of_length_le (by omega)] at h
theorem take_ext_step {α : Type} {l m : List α} {i : Nat} {x : α} (h : l.take i = m.take i) (hl : l[i]? = some x) (hm : m[i]? = some x) : l.take (i + 1) = m.take (i + 1) := by
  rw [List.take_add_one, List.take_add_one, h, hl, hm]

set_option maxRecDepth 10000 in
theorem same_calls (l m : List Int) (a1 a2 : Option Addr) (n1 c1 n2 c2 : Nat) (h1 : n1 ≤ 1099511627776) (h2 : n2 ≤ 1099511627776) (w : World) (hr1 : RI w a1 n1 l) (hr2 : RI w a2 n2 m) : Calls Tryz.prog 27 #[.slice a1 n1 c1, .slice a2 n2 c2] w fun e w' => e = .returned (.bool (decide (l = m))) ∧ Fr0 w w' := by
  refine enterS (args := [.slice a1 n1 c1, .slice a2 n2 c2]) (fun _ => False) Tryz.func27 rfl Tryz.ntmps27 rfl rfl ?_
  refine WC.seq ?_
  refine WC.region ?_
  refine WL.val (OV.assign rfl) rfl ?_
  refine WL.nil ?_
  refine WX.next ?_
  refine WC.seq ?_
  refine WC.seq ?_
  refine WC.region ?_
  refine WL.val (OV.move rfl) rfl ?_
  first
  | (refine WL.val (OV.lenSlice rfl T.u32) rfl ?_)
  | (refine WL.val (OV.lenStr rfl T.u32) rfl ?_)
  refine WL.val (OV.move rfl) rfl ?_
  first
  | (refine WL.val (OV.lenSlice rfl T.u32) rfl ?_)
  | (refine WL.val (OV.lenStr rfl T.u32) rfl ?_)
  refine WL.val (OV.neq rfl rfl) rfl ?_
  refine WL.nil ?_
  refine WX.next ?_
  refine WC.cond rfl (fun c10 => ?_) (fun c10 => ?_)
  · try simp only [decide_eq_true_eq, decide_eq_false_iff_not, Bool.not_eq_true', Bool.not_eq_false'] at c10
    refine WC.seq ?_
    refine WC.region ?_
    refine WL.val (OV.assign rfl) rfl ?_
    refine WL.nil ?_
    refine WX.next ?_
    refine WC.ret ?_
    refine WX.then_ret ?_
    exact WX.ret1 rfl rfl rfl (fun w' hw => ⟨by rw [decide_eq_false (fun h => c10 (by rw [← hr1.1, ← hr2.1, h]))], hw.fr⟩)
  · try simp only [decide_eq_true_eq, decide_eq_false_iff_not, Bool.not_eq_true', Bool.not_eq_false'] at c10
    refine WC.skip ?_
    refine WX.next ?_
    refine WC.seq ?_
    refine WC.seq ?_
    refine WC.region ?_
    refine WL.val (OV.assign rfl) rfl ?_
    refine WL.nil ?_
    refine WX.next ?_
    refine WC.block ?_
    have e1 := hr1.1
    have e2 := hr2.1
    refine WC.loop1 (fun (i : Nat) => [(0, .slice a1 n1 c1), (1, .slice a2 n2 c2), (5, .int .i64 (i : Int))])
        (fun i w' => (i ≤ n1 ∧ l.take i = m.take i) ∧ Sat w (fun _ => False) (fun b => b < w.heap.size) w [] w')
        (fun i => n1 - i) 0 ⟨rfl, rfl, rfl, trivial⟩ (fun w' hw => ⟨⟨by omega, by simp⟩, hw⟩) ?_
    intro i
    refine WC.pure (fun hi => ?_)
    obtain ⟨hi, heq⟩ := hi
    refine WC.seq ?_
    refine WC.seq ?_
    refine WC.region ?_
    refine WL.val (OV.move rfl) rfl ?_
    refine WL.val (OV.move rfl) rfl ?_
    first
    | (refine WL.val (OV.lenSlice rfl T.u32) rfl ?_)
    | (refine WL.val (OV.lenStr rfl T.u32) rfl ?_)
    refine WL.val (OV.lss rfl rfl) rfl ?_
    refine WL.nil ?_
    refine WX.next ?_
    refine WC.cond rfl (fun c14 => ?_) (fun c14 => ?_)
    · try simp only [decide_eq_true_eq, decide_eq_false_iff_not, Bool.not_eq_true', Bool.not_eq_false'] at c14
      refine WC.skip ?_
      refine WX.next ?_
      refine WC.seq ?_
      refine WC.block ?_
      refine WC.seq ?_
      refine WC.quietS (by kernel_rfl) (by kernel_rfl) (m := 9) rfl ?_
      refine WH.free 0 rfl (by kernel_rfl) (by kernel_rfl) (by kernel_rfl) rfl (fun _ => (fun _ h => h)) (OV.move rfl) rfl (listed' := [true, false, false, false, false, false, false, false, false]) rfl ?_
      refine WH.free 1 rfl (by kernel_rfl) (by kernel_rfl) (by kernel_rfl) rfl (fun _ => (fun _ h => h)) (OV.move rfl) rfl (listed' := [true, true, false, false, false, false, false, false, false]) rfl ?_
      have hil : i < l.length := by omega
      have him : i < m.length := by omega
      obtain ⟨q1, rfl⟩ := hr1.some (by omega)
      obtain ⟨q2, rfl⟩ := hr2.some (by omega)
      refine WH.free 2 rfl (by kernel_rfl) (by kernel_rfl) (by kernel_rfl) rfl (fun _ => (fun _ h => h)) (OV.indexSliceA (i := i) rfl rfl T.u32 T.z3 (by omega)) rfl (listed' := [true, true, true, false, false, false, false, false, false]) rfl ?_
      refine WH.take 3 rfl (by kernel_rfl) (by kernel_rfl) (by kernel_rfl) (by kernel_rfl) (fun _ h => h) (OV.load1 (v := .int .i64 (l.getD i 0)) rfl T.u3 rfl (fun _ hw => (hr1.sat hw).cell hil)) rfl (listed' := [true, true, true, true, false, false, false, false, false]) rfl ?_
      refine WH.free 4 rfl (by kernel_rfl) (by kernel_rfl) (by kernel_rfl) rfl (fun _ => (fun _ h => h)) (OV.move rfl) rfl (listed' := [true, true, true, true, true, false, false, false, false]) rfl ?_
      refine WH.free 5 rfl (by kernel_rfl) (by kernel_rfl) (by kernel_rfl) rfl (fun _ => (fun _ h => h)) (OV.move rfl) rfl (listed' := [true, true, true, true, true, true, false, false, false]) rfl ?_
      refine WH.free 6 rfl (by kernel_rfl) (by kernel_rfl) (by kernel_rfl) rfl (fun _ => (fun _ h => h)) (OV.indexSliceA (i := i) rfl rfl T.u32 T.z3 (by omega)) rfl (listed' := [true, true, true, true, true, true, true, false, false]) rfl ?_
      refine WH.take 7 rfl (by kernel_rfl) (by kernel_rfl) (by kernel_rfl) (by kernel_rfl) (fun _ h => h) (OV.load1 (v := .int .i64 (m.getD i 0)) rfl T.u3 rfl (fun _ hw => (hr2.sat hw).cell him)) rfl (listed' := [true, true, true, true, true, true, true, true, false]) rfl ?_
      refine WH.free 8 rfl (by kernel_rfl) (by kernel_rfl) (by kernel_rfl) rfl (fun _ => (fun _ h => h)) (OV.neq rfl rfl) rfl (listed' := [true, true, true, true, true, true, true, true, true]) rfl ?_
      refine WH.done (by kernel_rfl) ?_
      refine WX.next ?_
      refine WC.cond rfl (fun c25 => ?_) (fun c25 => ?_)
      · try simp only [decide_eq_true_eq, decide_eq_false_iff_not, Bool.not_eq_true', Bool.not_eq_false'] at c25
        refine WC.seq ?_
        refine WC.region ?_
        refine WL.val (OV.assign rfl) rfl ?_
        refine WL.nil ?_
        refine WX.next ?_
        refine WC.ret ?_
        refine WX.block_ret ?_
        refine WX.then_ret ?_
        refine WX.then_ret ?_
        refine WX.block_ret ?_
        refine WX.then_ret ?_
        exact WX.ret1 rfl rfl rfl (fun w' hw => ⟨by rw [decide_eq_false (fun h => c25 (by rw [h]))], hw.fr⟩)
      · try simp only [decide_eq_true_eq, decide_eq_false_iff_not, Bool.not_eq_true', Bool.not_eq_false'] at c25
        refine WC.skip ?_
        refine WX.block_normal ?_
        refine WX.next ?_
        refine WC.region ?_
        refine WL.val (OV.move rfl) rfl ?_
        first
        | (refine WL.val (OV.addI rfl rfl (by omega)) rfl ?_)
        | (refine WL.val (OV.add rfl rfl) rfl ?_)
        refine WL.val (OV.assign rfl) rfl ?_
        refine WL.nil ?_
        have hg : l.getD i 0 = m.getD i 0 := by simpa using c25
        exact WX.round1 (i + 1) ⟨rfl, rfl, rfl, trivial⟩ (fun w' hw => ⟨⟨by omega, take_ext_step heq (x := l.getD i 0) (by simp [hil]) (by rw [hg]; simp [him])⟩, hw⟩) (by show n1 - (i + 1) < n1 - i; omega)
    · try simp only [decide_eq_true_eq, decide_eq_false_iff_not, Bool.not_eq_true', Bool.not_eq_false'] at c14
      refine WC.exit ?_
      refine WX.then_exit ?_
      refine WX.then_exit ?_
      refine WX.block_hit ?_
      refine WX.next ?_
      refine WC.seq ?_
      refine WC.region ?_
      refine WL.val (OV.assign rfl) rfl ?_
      refine WL.nil ?_
      refine WX.next ?_
      refine WC.ret ?_
      exact WX.ret1 rfl rfl rfl (fun w' hw => ⟨by rw [decide_eq_true (take_ext (by omega) heq (by omega))], hw.fr⟩)

set_option maxRecDepth 10000 in
theorem sameRows_calls (l m : List (List Int)) (a1 a2 : Option Addr) (n1 c1 n2 c2 : Nat) (w : World) (hr1 : RLi w a1 n1 l) (hr2 : RLi w a2 n2 m) : Calls Tryz.prog 24 #[.slice a1 n1 c1, .slice a2 n2 c2] w fun e w' => e = .returned (.bool (decide (l = m))) ∧ Fr0 w w' := by
  refine enterS (args := [.slice a1 n1 c1, .slice a2 n2 c2]) (fun _ => False) Tryz.func24 rfl Tryz.ntmps24 rfl rfl ?_
  refine WC.seq ?_
  refine WC.region ?_
  refine WL.val (OV.assign rfl) rfl ?_
  refine WL.nil ?_
  refine WX.next ?_
  refine WC.seq ?_
  refine WC.seq ?_
  refine WC.region ?_
  refine WL.val (OV.move rfl) rfl ?_
  first
  | (refine WL.val (OV.lenSlice rfl T.u48) rfl ?_)
  | (refine WL.val (OV.lenStr rfl T.u48) rfl ?_)
  refine WL.val (OV.move rfl) rfl ?_
  first
  | (refine WL.val (OV.lenSlice rfl T.u48) rfl ?_)
  | (refine WL.val (OV.lenStr rfl T.u48) rfl ?_)
  refine WL.val (OV.neq rfl rfl) rfl ?_
  refine WL.nil ?_
  refine WX.next ?_
  refine WC.cond rfl (fun c10 => ?_) (fun c10 => ?_)
  · try simp only [decide_eq_true_eq, decide_eq_false_iff_not, Bool.not_eq_true', Bool.not_eq_false'] at c10
    refine WC.seq ?_
    refine WC.region ?_
    refine WL.val (OV.assign rfl) rfl ?_
    refine WL.nil ?_
    refine WX.next ?_
    refine WC.ret ?_
    refine WX.then_ret ?_
    exact WX.ret1 rfl rfl rfl (fun w' hw => ⟨by rw [decide_eq_false (fun h => c10 (by rw [← hr1.len, ← hr2.len, h]))], hw.fr⟩)
  · try simp only [decide_eq_true_eq, decide_eq_false_iff_not, Bool.not_eq_true', Bool.not_eq_false'] at c10
    refine WC.skip ?_
    refine WX.next ?_
    refine WC.seq ?_
    refine WC.seq ?_
    refine WC.region ?_
    refine WL.val (OV.assign rfl) rfl ?_
    refine WL.nil ?_
    refine WX.next ?_
    refine WC.block ?_
    have e1 := hr1.len
    have e2 := hr2.len
    have e3 := hr1.big
    refine WC.loop1 (fun (i : Nat) => [(0, .slice a1 n1 c1), (1, .slice a2 n2 c2), (5, .int .i64 (i : Int))])
        (fun i w' => (i ≤ n1 ∧ l.take i = m.take i) ∧ Sat w (fun _ => False) (fun b => b < w.heap.size) w [] w')
        (fun i => n1 - i) 0 ⟨rfl, rfl, rfl, trivial⟩ (fun w' hw => ⟨⟨by omega, by simp⟩, hw⟩) ?_
    intro i
    refine WC.pure (fun hi => ?_)
    obtain ⟨hi, heq⟩ := hi
    refine WC.seq ?_
    refine WC.seq ?_
    refine WC.region ?_
    refine WL.val (OV.move rfl) rfl ?_
    refine WL.val (OV.move rfl) rfl ?_
    first
    | (refine WL.val (OV.lenSlice rfl T.u48) rfl ?_)
    | (refine WL.val (OV.lenStr rfl T.u48) rfl ?_)
    refine WL.val (OV.lss rfl rfl) rfl ?_
    refine WL.nil ?_
    refine WX.next ?_
    refine WC.cond rfl (fun c14 => ?_) (fun c14 => ?_)
    · try simp only [decide_eq_true_eq, decide_eq_false_iff_not, Bool.not_eq_true', Bool.not_eq_false'] at c14
      refine WC.skip ?_
      refine WX.next ?_
      refine WC.seq ?_
      refine WC.block ?_
      refine WC.seq ?_
      refine WC.quietS (by kernel_rfl) (by kernel_rfl) (m := 10) rfl ?_
      refine WH.free 0 rfl (by kernel_rfl) (by kernel_rfl) (by kernel_rfl) rfl (fun _ => (fun _ h => h)) (OV.move rfl) rfl (listed' := [true, false, false, false, false, false, false, false, false, false]) rfl ?_
      refine WH.free 1 rfl (by kernel_rfl) (by kernel_rfl) (by kernel_rfl) rfl (fun _ => (fun _ h => h)) (OV.move rfl) rfl (listed' := [true, true, false, false, false, false, false, false, false, false]) rfl ?_
      obtain ⟨q1, x, ax, cx, rfl, hx, hxm, hxc, hxr⟩ := hr1.get (i := i) (by omega)
      obtain ⟨q2, y, ay, cy, rfl, hy, hym, hyc, hyr⟩ := hr2.get (i := i) (by omega)
      refine WH.free 2 rfl (by kernel_rfl) (by kernel_rfl) (by kernel_rfl) rfl (fun _ => (fun _ h => h)) (OV.indexSliceA (i := i) rfl rfl T.u48 T.z32 (by omega)) rfl (listed' := [true, true, true, false, false, false, false, false, false, false]) rfl ?_
      refine WH.take 3 rfl (by kernel_rfl) (by kernel_rfl) (by kernel_rfl) (by kernel_rfl) (fun _ h => h) (OV.load1 (v := .slice ax x.length cx) rfl T.u32 rfl (fun _ hw => hw.keeps _ _ hxc)) rfl (listed' := [true, true, true, true, false, false, false, false, false, false]) rfl ?_
      refine WH.free 4 rfl (by kernel_rfl) (by kernel_rfl) (by kernel_rfl) rfl (fun _ => (fun _ h => h)) (OV.move rfl) rfl (listed' := [true, true, true, true, true, false, false, false, false, false]) rfl ?_
      refine WH.free 5 rfl (by kernel_rfl) (by kernel_rfl) (by kernel_rfl) rfl (fun _ => (fun _ h => h)) (OV.move rfl) rfl (listed' := [true, true, true, true, true, true, false, false, false, false]) rfl ?_
      refine WH.free 6 rfl (by kernel_rfl) (by kernel_rfl) (by kernel_rfl) rfl (fun _ => (fun _ h => h)) (OV.indexSliceA (i := i) rfl rfl T.u48 T.z32 (by omega)) rfl (listed' := [true, true, true, true, true, true, true, false, false, false]) rfl ?_
      refine WH.take 7 rfl (by kernel_rfl) (by kernel_rfl) (by kernel_rfl) (by kernel_rfl) (fun _ h => h) (OV.load1 (v := .slice ay y.length cy) rfl T.u32 rfl (fun _ hw => hw.keeps _ _ hyc)) rfl (listed' := [true, true, true, true, true, true, true, true, false, false]) rfl ?_
      refine WH.only 8 rfl (by kernel_rfl) (listed' := [true, true, true, true, true, true, true, true, true, false]) rfl (fl' := false) rfl ?_
      refine WL.call0 (v := .bool (decide (x = y))) (by kernel_rfl) rfl rfl (fun w' hw' => same_calls x y ax ay x.length cx y.length cy (hr1.lens x hxm) (hr2.lens y hym) w' (hxr.sat hw') (hyr.sat hw')) ?_
      refine WL.nil ?_
      refine WX.contD (by kernel_rfl) (fun _ => (fun _ h => h)) ?_
      refine WH.free 9 rfl (by kernel_rfl) (by kernel_rfl) (by kernel_rfl) rfl (fun _ => (fun _ h => h)) (OV.not rfl) rfl (listed' := [true, true, true, true, true, true, true, true, true, true]) rfl ?_
      refine WH.done (by kernel_rfl) ?_
      refine WX.next ?_
      refine WC.cond rfl (fun c26 => ?_) (fun c26 => ?_)
      · try simp only [decide_eq_true_eq, decide_eq_false_iff_not, Bool.not_eq_true', Bool.not_eq_false'] at c26
        refine WC.seq ?_
        refine WC.region ?_
        refine WL.val (OV.assign rfl) rfl ?_
        refine WL.nil ?_
        refine WX.next ?_
        refine WC.ret ?_
        refine WX.block_ret ?_
        refine WX.then_ret ?_
        refine WX.then_ret ?_
        refine WX.block_ret ?_
        refine WX.then_ret ?_
        exact WX.ret1 rfl rfl rfl (fun w' hw => ⟨by rw [decide_eq_false (fun h => by have h3 : x = y := (Option.some.inj (hx.symm.trans (by rw [h]; exact hy))); simp [h3] at c26)], hw.fr⟩)
      · try simp only [decide_eq_true_eq, decide_eq_false_iff_not, Bool.not_eq_true', Bool.not_eq_false'] at c26
        refine WC.skip ?_
        refine WX.block_normal ?_
        refine WX.next ?_
        refine WC.region ?_
        refine WL.val (OV.move rfl) rfl ?_
        first
        | (refine WL.val (OV.addI rfl rfl (by omega)) rfl ?_)
        | (refine WL.val (OV.add rfl rfl) rfl ?_)
        refine WL.val (OV.assign rfl) rfl ?_
        refine WL.nil ?_
        have hg : x = y := by simpa using c26
        exact WX.round1 (i + 1) ⟨rfl, rfl, rfl, trivial⟩ (fun w' hw => ⟨⟨by omega, take_ext_step heq hx (by rw [hg]; exact hy)⟩, hw⟩) (by show n1 - (i + 1) < n1 - i; omega)
    · try simp only [decide_eq_true_eq, decide_eq_false_iff_not, Bool.not_eq_true', Bool.not_eq_false'] at c14
      refine WC.exit ?_
      refine WX.then_exit ?_
      refine WX.then_exit ?_
      refine WX.block_hit ?_
      refine WX.next ?_
      refine WC.seq ?_
      refine WC.region ?_
      refine WL.val (OV.assign rfl) rfl ?_
      refine WL.nil ?_
      refine WX.next ?_
      refine WC.ret ?_
      exact WX.ret1 rfl rfl rfl (fun w' hw => ⟨by rw [decide_eq_true (by rwa [List.take_of_length_le (by omega), List.take_of_length_le (by omega)] at heq)], hw.fr⟩)

end Go.Proofs.YtijplknkpkmblaaGreatDoor
