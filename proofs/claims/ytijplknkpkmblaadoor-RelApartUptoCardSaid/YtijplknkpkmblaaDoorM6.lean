/- Contracts of functions of the program: what each returns and leaves in memory. Printed by gen.py and walk.py. -/
import Derived.Test.YtijplknkpkmblaaDoorM5
namespace Go.Proofs.YtijplknkpkmblaaDoor
open Go Go.Hw
set_option linter.unusedSimpArgs false
set_option linter.unusedVariables false
/-! ### Lists of rows held against one another -/
/-- Each row stands ahead of the next. -/
def Rising (l : List (List Int)) : Prop := ∀ i a b, l[i]? = some a → l[i + 1]? = some b → a.length = b.length ∧ cmpL a b < 0
theorem cmpL_pre {a b : List Int} {k : Nat} (h : cmpL a b = cmpL (a.drop k) (b.drop k)) (ha : k < a.length) (hb : k < b.length) (he : a.getD k 0 = b.getD k 0) : cmpL a b = cmpL (a.drop (k + 1)) (b.drop (k + 1)) := by
  rw [cmpL_drop ha hb h, he, if_neg (by omega), if_neg (by omega)]
theorem cmpL_ne {a b : List Int} {k : Nat} (h : cmpL a b = cmpL (a.drop k) (b.drop k)) (hl : a.length = b.length) (hc : cmpL a b < 0) : k < a.length := by
  rcases Nat.lt_or_ge k a.length with h1 | h1
  · exact h1
  · rw [h, List.drop_eq_nil_of_le h1, List.drop_eq_nil_of_le (by omega)] at hc
    simp [cmpL] at hc
theorem cmpL_at {a b : List Int} {k : Nat} (h : cmpL a b = cmpL (a.drop k) (b.drop k)) (ha : k < a.length) (hb : k < b.length) (hne : a.getD k 0 ≠ b.getD k 0) (hc : cmpL a b < 0) : ¬ b.getD k 0 < a.getD k 0 := by
  intro hh
  rw [cmpL_drop ha hb h, if_neg (by omega), if_pos hh] at hc
  omega

set_option maxRecDepth 10000 in
theorem rising_calls (l : List (List Int)) (a : Option Addr) (n c : Nat) (w : World) (hr : RLi w a n l) (hri : Rising l) : Calls Tryd.prog 39 #[.slice a n c] w fun e w' => e = .returned (.bool true) ∧ Fr0 w w' := by
  refine enterS (args := [.slice a n c]) (fun _ => False) Tryd.func39 rfl Tryd.ntmps39 rfl rfl ?_
  refine WC.seq ?_
  refine WC.region ?_
  refine WL.val (OV.assign rfl) rfl ?_
  refine WL.nil ?_
  refine WX.next ?_
  refine WC.seq ?_
  refine WC.seq ?_
  refine WC.region ?_
  refine WL.val (OV.assign rfl) rfl ?_
  refine WL.nil ?_
  refine WX.next ?_
  refine WC.block ?_
  have e1 := hr.len
  have e3 := hr.big
  refine WC.loop1 (fun (i : Nat) => [(0, .slice a n c), (3, .int .i64 ((i + 1 : Nat) : Int))])
      (fun i w' => Sat w (fun _ => False) (fun b => b < w.heap.size) w [] w')
      (fun i => n - i) 0 ⟨rfl, rfl, trivial⟩ (fun w' hw => hw) ?_
  intro i
  refine WC.seq ?_
  refine WC.seq ?_
  refine WC.region ?_
  refine WL.val (OV.move rfl) rfl ?_
  refine WL.val (OV.move rfl) rfl ?_
  first
  | (refine WL.val (OV.lenSlice rfl T.u29) rfl ?_)
  | (refine WL.val (OV.lenStr rfl T.u29) rfl ?_)
  refine WL.val (OV.lss rfl rfl) rfl ?_
  refine WL.nil ?_
  refine WX.next ?_
  refine WC.cond rfl (fun c10 => ?_) (fun c10 => ?_)
  · try simp only [decide_eq_true_eq, decide_eq_false_iff_not, Bool.not_eq_true', Bool.not_eq_false'] at c10
    refine WC.skip ?_
    refine WX.next ?_
    refine WC.seq ?_
    refine WC.block ?_
    refine WC.seq ?_
    refine WC.region ?_
    refine WL.val (OV.move rfl) rfl ?_
    refine WL.val (OV.move rfl) rfl ?_
    refine WL.val ((OV.subI (a := ((i + 1 : Nat) : Int)) (b := 1) rfl rfl (by omega)).cast (u := .int .i64 (i : Int)) (by congr 1; omega)) rfl ?_
    obtain ⟨q1, x, ax, cx, rfl, hx, hxm, hxc, hxr⟩ := hr.get (i := i) (by omega)
    obtain ⟨q2, y, ay, cy, hq2, hy, hym, hyc, hyr⟩ := hr.get (i := i + 1) (by omega)
    obtain rfl : q1 = q2 := Option.some.inj hq2
    have hxl := hr.lens x hxm
    have hyl := hr.lens y hym
    obtain ⟨hle, hcm⟩ := hri i x y hx hy
    refine WL.val (OV.indexSliceA (i := i) rfl rfl T.u29 T.z23 (by omega)) rfl ?_
    refine WL.val (OV.load1 (v := .slice ax x.length cx) rfl T.u23 rfl (fun _ hw => hw.keeps _ _ hxc)) rfl ?_
    refine WL.val (OV.assign rfl) rfl ?_
    refine WL.nil ?_
    refine WX.next ?_
    refine WC.seq ?_
    refine WC.region ?_
    refine WL.val (OV.move rfl) rfl ?_
    refine WL.val (OV.move rfl) rfl ?_
    refine WL.val (OV.indexSliceA (i := i + 1) rfl rfl T.u29 T.z23 (by omega)) rfl ?_
    refine WL.val (OV.load1 (v := .slice ay y.length cy) rfl T.u23 rfl (fun _ hw => hw.keeps _ _ hyc)) rfl ?_
    refine WL.val (OV.assign rfl) rfl ?_
    refine WL.nil ?_
    refine WX.next ?_
    refine WC.seq ?_
    refine WC.region ?_
    refine WL.val (OV.assign rfl) rfl ?_
    refine WL.nil ?_
    refine WX.next ?_
    refine WC.seq ?_
    refine WC.block ?_
    refine WC.loop1 (fun (k : Nat) => [(0, .slice (some q1) n c), (3, .int .i64 ((i + 1 : Nat) : Int)), (4, .slice ax x.length cx), (5, .slice ay y.length cy), (6, .int .i64 (k : Int))])
        (fun k w' => (k ≤ x.length ∧ cmpL x y = cmpL (x.drop k) (y.drop k)) ∧ Sat w (fun _ => False) (fun b => b < w.heap.size) w [] w')
        (fun k => x.length - k) 0 ⟨rfl, rfl, rfl, rfl, rfl, trivial⟩ (fun w' hw => ⟨⟨by omega, rfl⟩, hw⟩) ?_
    intro k
    refine WC.pure (fun hk => ?_)
    obtain ⟨hk, hpre⟩ := hk
    refine WC.seq ?_
    refine WC.seq ?_
    refine WC.quietS (by kernel_rfl) (by kernel_rfl) (m := 21) rfl ?_
    refine WH.free 0 rfl (by kernel_rfl) (by kernel_rfl) (by kernel_rfl) rfl (fun _ => (fun _ h => h)) (OV.move rfl) rfl (listed' := [true, false, false, false, false, false, false, false, false, false, false, false, false, false, false, false, false, false, false, false, false]) rfl ?_
    refine WH.free 1 rfl (by kernel_rfl) (by kernel_rfl) (by kernel_rfl) rfl (fun _ => (fun _ h => h)) (OV.move rfl) rfl (listed' := [true, true, false, false, false, false, false, false, false, false, false, false, false, false, false, false, false, false, false, false, false]) rfl ?_
    first
    | (refine WH.free 2 rfl (by kernel_rfl) (by kernel_rfl) (by kernel_rfl) rfl (fun _ => (fun _ h => h)) (OV.lenSlice rfl T.u23) rfl (listed' := [true, true, true, false, false, false, false, false, false, false, false, false, false, false, false, false, false, false, false, false, false]) rfl ?_)
    | (refine WH.free 2 rfl (by kernel_rfl) (by kernel_rfl) (by kernel_rfl) rfl (fun _ => (fun _ h => h)) (OV.lenStr rfl T.u23) rfl (listed' := [true, true, true, false, false, false, false, false, false, false, false, false, false, false, false, false, false, false, false, false, false]) rfl ?_)
    refine WH.free 3 rfl (by kernel_rfl) (by kernel_rfl) (by kernel_rfl) rfl (fun _ => (fun _ h => h)) (OV.lss rfl rfl) rfl (listed' := [true, true, true, true, false, false, false, false, false, false, false, false, false, false, false, false, false, false, false, false, false]) rfl ?_
    refine WH.free 4 rfl (by kernel_rfl) (by kernel_rfl) (by kernel_rfl) rfl (fun _ => (fun _ h => h)) (OV.move rfl) rfl (listed' := [true, true, true, true, true, false, false, false, false, false, false, false, false, false, false, false, false, false, false, false, false]) rfl ?_
    refine WH.split (t := 26) rfl (fun g26 => ?_) (fun g26 => ?_)
    · try simp only [decide_eq_true_eq, decide_eq_false_iff_not, Bool.not_eq_true', Bool.not_eq_false'] at g26
      refine WH.freeG 5 (b := true) rfl (by kernel_rfl) (by kernel_rfl) (by kernel_rfl) rfl (fun _ => (fun _ h => h)) rfl rfl rfl (OV.move rfl) rfl (listed' := [true, true, true, true, true, true, false, false, false, false, false, false, false, false, false, false, false, false, false, false, false]) rfl ?_
      refine WH.freeG 6 (b := true) rfl (by kernel_rfl) (by kernel_rfl) (by kernel_rfl) rfl (fun _ => (fun _ h => h)) rfl rfl rfl (OV.move rfl) rfl (listed' := [true, true, true, true, true, true, true, false, false, false, false, false, false, false, false, false, false, false, false, false, false]) rfl ?_
      first
      | (refine WH.freeG 7 (b := true) rfl (by kernel_rfl) (by kernel_rfl) (by kernel_rfl) rfl (fun _ => (fun _ h => h)) rfl rfl rfl (OV.lenSlice rfl T.u23) rfl (listed' := [true, true, true, true, true, true, true, true, false, false, false, false, false, false, false, false, false, false, false, false, false]) rfl ?_)
      | (refine WH.freeG 7 (b := true) rfl (by kernel_rfl) (by kernel_rfl) (by kernel_rfl) rfl (fun _ => (fun _ h => h)) rfl rfl rfl (OV.lenStr rfl T.u23) rfl (listed' := [true, true, true, true, true, true, true, true, false, false, false, false, false, false, false, false, false, false, false, false, false]) rfl ?_)
      refine WH.freeG 8 (b := true) rfl (by kernel_rfl) (by kernel_rfl) (by kernel_rfl) rfl (fun _ => (fun _ h => h)) rfl rfl rfl (OV.lss rfl rfl) rfl (listed' := [true, true, true, true, true, true, true, true, true, false, false, false, false, false, false, false, false, false, false, false, false]) rfl ?_
      refine WH.free 9 rfl (by kernel_rfl) (by kernel_rfl) (by kernel_rfl) rfl (fun _ => (fun _ h => h)) (OV.pickT rfl rfl) rfl (listed' := [true, true, true, true, true, true, true, true, true, true, false, false, false, false, false, false, false, false, false, false, false]) rfl ?_
      refine WH.free 10 rfl (by kernel_rfl) (by kernel_rfl) (by kernel_rfl) rfl (fun _ => (fun _ h => h)) (OV.move rfl) rfl (listed' := [true, true, true, true, true, true, true, true, true, true, true, false, false, false, false, false, false, false, false, false, false]) rfl ?_
      refine WH.split (t := 32) rfl (fun g32 => ?_) (fun g32 => ?_)
      · try simp only [decide_eq_true_eq, decide_eq_false_iff_not, Bool.not_eq_true', Bool.not_eq_false'] at g32
        refine WH.freeG 11 (b := true) rfl (by kernel_rfl) (by kernel_rfl) (by kernel_rfl) rfl (fun _ => (fun _ h => h)) rfl rfl rfl (OV.move rfl) rfl (listed' := [true, true, true, true, true, true, true, true, true, true, true, true, false, false, false, false, false, false, false, false, false]) rfl ?_
        refine WH.freeG 12 (b := true) rfl (by kernel_rfl) (by kernel_rfl) (by kernel_rfl) rfl (fun _ => (fun _ h => h)) rfl rfl rfl (OV.move rfl) rfl (listed' := [true, true, true, true, true, true, true, true, true, true, true, true, true, false, false, false, false, false, false, false, false]) rfl ?_
        have hkx : k < x.length := by omega
        have hky : k < y.length := by omega
        obtain ⟨q3, rfl⟩ := hxr.some (by omega)
        refine WH.freeG 13 (b := true) rfl (by kernel_rfl) (by kernel_rfl) (by kernel_rfl) rfl (fun _ => (fun _ h => h)) rfl rfl rfl (OV.indexSliceA (i := k) rfl rfl T.u23 T.z3 (by omega)) rfl (listed' := [true, true, true, true, true, true, true, true, true, true, true, true, true, true, false, false, false, false, false, false, false]) rfl ?_
        refine WH.takeG 14 (b := true) rfl (by kernel_rfl) (by kernel_rfl) (by kernel_rfl) (by kernel_rfl) (fun _ h => h) rfl rfl rfl (OV.load1 (v := .int .i64 (x.getD k 0)) rfl T.u3 rfl (fun _ hw => (hxr.sat hw).cell hkx)) rfl (listed' := [true, true, true, true, true, true, true, true, true, true, true, true, true, true, true, false, false, false, false, false, false]) rfl ?_
        refine WH.freeG 15 (b := true) rfl (by kernel_rfl) (by kernel_rfl) (by kernel_rfl) rfl (fun _ => (fun _ h => h)) rfl rfl rfl (OV.move rfl) rfl (listed' := [true, true, true, true, true, true, true, true, true, true, true, true, true, true, true, true, false, false, false, false, false]) rfl ?_
        refine WH.freeG 16 (b := true) rfl (by kernel_rfl) (by kernel_rfl) (by kernel_rfl) rfl (fun _ => (fun _ h => h)) rfl rfl rfl (OV.move rfl) rfl (listed' := [true, true, true, true, true, true, true, true, true, true, true, true, true, true, true, true, true, false, false, false, false]) rfl ?_
        obtain ⟨q4, rfl⟩ := hyr.some (by omega)
        refine WH.freeG 17 (b := true) rfl (by kernel_rfl) (by kernel_rfl) (by kernel_rfl) rfl (fun _ => (fun _ h => h)) rfl rfl rfl (OV.indexSliceA (i := k) rfl rfl T.u23 T.z3 (by omega)) rfl (listed' := [true, true, true, true, true, true, true, true, true, true, true, true, true, true, true, true, true, true, false, false, false]) rfl ?_
        refine WH.takeG 18 (b := true) rfl (by kernel_rfl) (by kernel_rfl) (by kernel_rfl) (by kernel_rfl) (fun _ h => h) rfl rfl rfl (OV.load1 (v := .int .i64 (y.getD k 0)) rfl T.u3 rfl (fun _ hw => (hyr.sat hw).cell hky)) rfl (listed' := [true, true, true, true, true, true, true, true, true, true, true, true, true, true, true, true, true, true, true, false, false]) rfl ?_
        refine WH.freeG 19 (b := true) rfl (by kernel_rfl) (by kernel_rfl) (by kernel_rfl) rfl (fun _ => (fun _ h => h)) rfl rfl rfl (OV.eql rfl rfl) rfl (listed' := [true, true, true, true, true, true, true, true, true, true, true, true, true, true, true, true, true, true, true, true, false]) rfl ?_
        refine WH.free 20 rfl (by kernel_rfl) (by kernel_rfl) (by kernel_rfl) rfl (fun _ => (fun _ h => h)) (OV.pickT rfl rfl) rfl (listed' := [true, true, true, true, true, true, true, true, true, true, true, true, true, true, true, true, true, true, true, true, true]) rfl ?_
        refine WH.done (by kernel_rfl) ?_
        refine WX.next ?_
        refine WC.cond rfl (fun c42 => ?_) (fun c42 => ?_)
        · try simp only [decide_eq_true_eq, decide_eq_false_iff_not, Bool.not_eq_true', Bool.not_eq_false'] at c42
          refine WC.skip ?_
          refine WX.next ?_
          refine WC.block ?_
          refine WC.region ?_
          refine WL.val (OV.move rfl) rfl ?_
          first
          | (refine WL.val (OV.addI rfl rfl (by omega)) rfl ?_)
          | (refine WL.val (OV.add rfl rfl) rfl ?_)
          refine WL.val (OV.assign rfl) rfl ?_
          refine WL.nil ?_
          refine WX.block_normal ?_
          have hxy : x.getD k 0 = y.getD k 0 := by simpa using c42
          exact WX.round1 (k + 1) ⟨rfl, rfl, rfl, rfl, rfl, trivial⟩ (fun w' hw => ⟨⟨by omega, cmpL_pre hpre hkx hky hxy⟩, hw⟩) (by show x.length - (k + 1) < x.length - k; omega)
        · try simp only [decide_eq_true_eq, decide_eq_false_iff_not, Bool.not_eq_true', Bool.not_eq_false'] at c42
          refine WC.exit ?_
          refine WX.then_exit ?_
          refine WX.then_exit ?_
          refine WX.block_hit ?_
          refine WX.next ?_
          refine WC.seq ?_
          have hkx := cmpL_ne hpre hle hcm
          have hky : k < y.length := by omega
          have hne : x.getD k 0 ≠ y.getD k 0 := by simpa using c42
          refine WC.quietS (by kernel_rfl) (by kernel_rfl) (m := 21) rfl ?_
          refine WH.free 0 rfl (by kernel_rfl) (by kernel_rfl) (by kernel_rfl) rfl (fun _ => (fun _ h => h)) (OV.move rfl) rfl (listed' := [true, false, false, false, false, false, false, false, false, false, false, false, false, false, false, false, false, false, false, false, false]) rfl ?_
          refine WH.free 1 rfl (by kernel_rfl) (by kernel_rfl) (by kernel_rfl) rfl (fun _ => (fun _ h => h)) (OV.move rfl) rfl (listed' := [true, true, false, false, false, false, false, false, false, false, false, false, false, false, false, false, false, false, false, false, false]) rfl ?_
          first
          | (refine WH.free 2 rfl (by kernel_rfl) (by kernel_rfl) (by kernel_rfl) rfl (fun _ => (fun _ h => h)) (OV.lenSlice rfl T.u23) rfl (listed' := [true, true, true, false, false, false, false, false, false, false, false, false, false, false, false, false, false, false, false, false, false]) rfl ?_)
          | (refine WH.free 2 rfl (by kernel_rfl) (by kernel_rfl) (by kernel_rfl) rfl (fun _ => (fun _ h => h)) (OV.lenStr rfl T.u23) rfl (listed' := [true, true, true, false, false, false, false, false, false, false, false, false, false, false, false, false, false, false, false, false, false]) rfl ?_)
          refine WH.free 3 rfl (by kernel_rfl) (by kernel_rfl) (by kernel_rfl) rfl (fun _ => (fun _ h => h)) (OV.geq rfl rfl) rfl (listed' := [true, true, true, true, false, false, false, false, false, false, false, false, false, false, false, false, false, false, false, false, false]) rfl ?_
          refine WH.free 4 rfl (by kernel_rfl) (by kernel_rfl) (by kernel_rfl) rfl (fun _ => (fun _ h => h)) (OV.move rfl) rfl (listed' := [true, true, true, true, true, false, false, false, false, false, false, false, false, false, false, false, false, false, false, false, false]) rfl ?_
          refine WH.known (t := 49) (b := false) rfl (by exact decide_eq_false (by omega)) ?_
          refine WH.freeG 5 (b := false) rfl (by kernel_rfl) (by kernel_rfl) (by kernel_rfl) rfl (fun _ => (fun _ h => h)) rfl rfl rfl (OV.move rfl) rfl (listed' := [true, true, true, true, true, true, false, false, false, false, false, false, false, false, false, false, false, false, false, false, false]) rfl ?_
          refine WH.freeG 6 (b := false) rfl (by kernel_rfl) (by kernel_rfl) (by kernel_rfl) rfl (fun _ => (fun _ h => h)) rfl rfl rfl (OV.move rfl) rfl (listed' := [true, true, true, true, true, true, true, false, false, false, false, false, false, false, false, false, false, false, false, false, false]) rfl ?_
          first
          | (refine WH.freeG 7 (b := false) rfl (by kernel_rfl) (by kernel_rfl) (by kernel_rfl) rfl (fun _ => (fun _ h => h)) rfl rfl rfl (OV.lenSlice rfl T.u23) rfl (listed' := [true, true, true, true, true, true, true, true, false, false, false, false, false, false, false, false, false, false, false, false, false]) rfl ?_)
          | (refine WH.freeG 7 (b := false) rfl (by kernel_rfl) (by kernel_rfl) (by kernel_rfl) rfl (fun _ => (fun _ h => h)) rfl rfl rfl (OV.lenStr rfl T.u23) rfl (listed' := [true, true, true, true, true, true, true, true, false, false, false, false, false, false, false, false, false, false, false, false, false]) rfl ?_)
          refine WH.freeG 8 (b := false) rfl (by kernel_rfl) (by kernel_rfl) (by kernel_rfl) rfl (fun _ => (fun _ h => h)) rfl rfl rfl (OV.geq rfl rfl) rfl (listed' := [true, true, true, true, true, true, true, true, true, false, false, false, false, false, false, false, false, false, false, false, false]) rfl ?_
          refine WH.free 9 rfl (by kernel_rfl) (by kernel_rfl) (by kernel_rfl) rfl (fun _ => (fun _ h => h)) (OV.pickF rfl rfl) rfl (listed' := [true, true, true, true, true, true, true, true, true, true, false, false, false, false, false, false, false, false, false, false, false]) rfl ?_
          refine WH.free 10 rfl (by kernel_rfl) (by kernel_rfl) (by kernel_rfl) rfl (fun _ => (fun _ h => h)) (OV.move rfl) rfl (listed' := [true, true, true, true, true, true, true, true, true, true, true, false, false, false, false, false, false, false, false, false, false]) rfl ?_
          refine WH.known (t := 55) (b := false) rfl (by exact decide_eq_false (by omega)) ?_
          refine WH.freeG 11 (b := false) rfl (by kernel_rfl) (by kernel_rfl) (by kernel_rfl) rfl (fun _ => (fun _ h => h)) rfl rfl rfl (OV.move rfl) rfl (listed' := [true, true, true, true, true, true, true, true, true, true, true, true, false, false, false, false, false, false, false, false, false]) rfl ?_
          refine WH.freeG 12 (b := false) rfl (by kernel_rfl) (by kernel_rfl) (by kernel_rfl) rfl (fun _ => (fun _ h => h)) rfl rfl rfl (OV.move rfl) rfl (listed' := [true, true, true, true, true, true, true, true, true, true, true, true, true, false, false, false, false, false, false, false, false]) rfl ?_
          refine WH.freeG 13 (b := false) rfl (by kernel_rfl) (by kernel_rfl) (by kernel_rfl) rfl (fun _ => (fun _ h => h)) rfl rfl rfl (OV.indexSliceA (i := k) rfl rfl T.u23 T.z3 (by omega)) rfl (listed' := [true, true, true, true, true, true, true, true, true, true, true, true, true, true, false, false, false, false, false, false, false]) rfl ?_
          refine WH.takeG 14 (b := false) rfl (by kernel_rfl) (by kernel_rfl) (by kernel_rfl) (by kernel_rfl) (fun _ h => h) rfl rfl rfl (OV.load1 (v := .int .i64 (x.getD k 0)) rfl T.u3 rfl (fun _ hw => (hxr.sat hw).cell hkx)) rfl (listed' := [true, true, true, true, true, true, true, true, true, true, true, true, true, true, true, false, false, false, false, false, false]) rfl ?_
          refine WH.freeG 15 (b := false) rfl (by kernel_rfl) (by kernel_rfl) (by kernel_rfl) rfl (fun _ => (fun _ h => h)) rfl rfl rfl (OV.move rfl) rfl (listed' := [true, true, true, true, true, true, true, true, true, true, true, true, true, true, true, true, false, false, false, false, false]) rfl ?_
          refine WH.freeG 16 (b := false) rfl (by kernel_rfl) (by kernel_rfl) (by kernel_rfl) rfl (fun _ => (fun _ h => h)) rfl rfl rfl (OV.move rfl) rfl (listed' := [true, true, true, true, true, true, true, true, true, true, true, true, true, true, true, true, true, false, false, false, false]) rfl ?_
          refine WH.freeG 17 (b := false) rfl (by kernel_rfl) (by kernel_rfl) (by kernel_rfl) rfl (fun _ => (fun _ h => h)) rfl rfl rfl (OV.indexSliceA (i := k) rfl rfl T.u23 T.z3 (by omega)) rfl (listed' := [true, true, true, true, true, true, true, true, true, true, true, true, true, true, true, true, true, true, false, false, false]) rfl ?_
          refine WH.takeG 18 (b := false) rfl (by kernel_rfl) (by kernel_rfl) (by kernel_rfl) (by kernel_rfl) (fun _ h => h) rfl rfl rfl (OV.load1 (v := .int .i64 (y.getD k 0)) rfl T.u3 rfl (fun _ hw => (hyr.sat hw).cell hky)) rfl (listed' := [true, true, true, true, true, true, true, true, true, true, true, true, true, true, true, true, true, true, true, false, false]) rfl ?_
          refine WH.freeG 19 (b := false) rfl (by kernel_rfl) (by kernel_rfl) (by kernel_rfl) rfl (fun _ => (fun _ h => h)) rfl rfl rfl ((OV.gtr rfl rfl).cast (u := .bool false) (by congr 1; exact decide_eq_false (cmpL_at hpre hkx hky hne hcm))) rfl (listed' := [true, true, true, true, true, true, true, true, true, true, true, true, true, true, true, true, true, true, true, true, false]) rfl ?_
          refine WH.free 20 rfl (by kernel_rfl) (by kernel_rfl) (by kernel_rfl) rfl (fun _ => (fun _ h => h)) (OV.pickF rfl rfl) rfl (listed' := [true, true, true, true, true, true, true, true, true, true, true, true, true, true, true, true, true, true, true, true, true]) rfl ?_
          refine WH.done (by kernel_rfl) ?_
          refine WX.next ?_
          refine WC.condF rfl ?_
          refine WC.skip ?_
          refine WX.block_normal ?_
          refine WX.next ?_
          refine WC.region ?_
          refine WL.val (OV.move rfl) rfl ?_
          first
          | (refine WL.val (OV.addI rfl rfl (by omega)) rfl ?_)
          | (refine WL.val (OV.add rfl rfl) rfl ?_)
          refine WL.val (OV.assign rfl) rfl ?_
          refine WL.nil ?_
          exact WX.round1 (i + 1) ⟨rfl, rfl, trivial⟩ (fun w' hw => hw) (by show n - (i + 1) < n - i; omega)
      · try simp only [decide_eq_true_eq, decide_eq_false_iff_not, Bool.not_eq_true', Bool.not_eq_false'] at g32
        refine WH.skip 11 (b := false) rfl (by kernel_rfl) (by kernel_rfl) (by kernel_rfl) rfl (fun _ => (fun _ h => h)) rfl rfl rfl rfl (listed' := [true, true, true, true, true, true, true, true, true, true, true, true, false, false, false, false, false, false, false, false, false]) rfl ?_
        refine WH.skip 12 (b := false) rfl (by kernel_rfl) (by kernel_rfl) (by kernel_rfl) rfl (fun _ => (fun _ h => h)) rfl rfl rfl rfl (listed' := [true, true, true, true, true, true, true, true, true, true, true, true, true, false, false, false, false, false, false, false, false]) rfl ?_
        refine WH.skip 13 (b := false) rfl (by kernel_rfl) (by kernel_rfl) (by kernel_rfl) rfl (fun _ => (fun _ h => h)) rfl rfl rfl rfl (listed' := [true, true, true, true, true, true, true, true, true, true, true, true, true, true, false, false, false, false, false, false, false]) rfl ?_
        refine WH.skip 14 (b := false) rfl (by kernel_rfl) (by kernel_rfl) (by kernel_rfl) rfl (fun _ => (fun _ h => h)) rfl rfl rfl rfl (listed' := [true, true, true, true, true, true, true, true, true, true, true, true, true, true, true, false, false, false, false, false, false]) rfl ?_
        refine WH.skip 15 (b := false) rfl (by kernel_rfl) (by kernel_rfl) (by kernel_rfl) rfl (fun _ => (fun _ h => h)) rfl rfl rfl rfl (listed' := [true, true, true, true, true, true, true, true, true, true, true, true, true, true, true, true, false, false, false, false, false]) rfl ?_
        refine WH.skip 16 (b := false) rfl (by kernel_rfl) (by kernel_rfl) (by kernel_rfl) rfl (fun _ => (fun _ h => h)) rfl rfl rfl rfl (listed' := [true, true, true, true, true, true, true, true, true, true, true, true, true, true, true, true, true, false, false, false, false]) rfl ?_
        refine WH.skip 17 (b := false) rfl (by kernel_rfl) (by kernel_rfl) (by kernel_rfl) rfl (fun _ => (fun _ h => h)) rfl rfl rfl rfl (listed' := [true, true, true, true, true, true, true, true, true, true, true, true, true, true, true, true, true, true, false, false, false]) rfl ?_
        refine WH.skip 18 (b := false) rfl (by kernel_rfl) (by kernel_rfl) (by kernel_rfl) rfl (fun _ => (fun _ h => h)) rfl rfl rfl rfl (listed' := [true, true, true, true, true, true, true, true, true, true, true, true, true, true, true, true, true, true, true, false, false]) rfl ?_
        refine WH.skip 19 (b := false) rfl (by kernel_rfl) (by kernel_rfl) (by kernel_rfl) rfl (fun _ => (fun _ h => h)) rfl rfl rfl rfl (listed' := [true, true, true, true, true, true, true, true, true, true, true, true, true, true, true, true, true, true, true, true, false]) rfl ?_
        refine WH.free 20 rfl (by kernel_rfl) (by kernel_rfl) (by kernel_rfl) rfl (fun _ => (fun _ h => h)) (OV.pickF rfl rfl) rfl (listed' := [true, true, true, true, true, true, true, true, true, true, true, true, true, true, true, true, true, true, true, true, true]) rfl ?_
        refine WH.done (by kernel_rfl) ?_
        refine WX.next ?_
        refine WC.condF rfl ?_
        refine WC.exit ?_
        refine WX.then_exit ?_
        refine WX.then_exit ?_
        refine WX.block_hit ?_
        refine WX.next ?_
        refine WC.seq ?_
        have hkx := cmpL_ne hpre hle hcm
        exact absurd hkx (by omega)
    · try simp only [decide_eq_true_eq, decide_eq_false_iff_not, Bool.not_eq_true', Bool.not_eq_false'] at g26
      refine WH.skip 5 (b := false) rfl (by kernel_rfl) (by kernel_rfl) (by kernel_rfl) rfl (fun _ => (fun _ h => h)) rfl rfl rfl rfl (listed' := [true, true, true, true, true, true, false, false, false, false, false, false, false, false, false, false, false, false, false, false, false]) rfl ?_
      refine WH.skip 6 (b := false) rfl (by kernel_rfl) (by kernel_rfl) (by kernel_rfl) rfl (fun _ => (fun _ h => h)) rfl rfl rfl rfl (listed' := [true, true, true, true, true, true, true, false, false, false, false, false, false, false, false, false, false, false, false, false, false]) rfl ?_
      refine WH.skip 7 (b := false) rfl (by kernel_rfl) (by kernel_rfl) (by kernel_rfl) rfl (fun _ => (fun _ h => h)) rfl rfl rfl rfl (listed' := [true, true, true, true, true, true, true, true, false, false, false, false, false, false, false, false, false, false, false, false, false]) rfl ?_
      refine WH.skip 8 (b := false) rfl (by kernel_rfl) (by kernel_rfl) (by kernel_rfl) rfl (fun _ => (fun _ h => h)) rfl rfl rfl rfl (listed' := [true, true, true, true, true, true, true, true, true, false, false, false, false, false, false, false, false, false, false, false, false]) rfl ?_
      refine WH.free 9 rfl (by kernel_rfl) (by kernel_rfl) (by kernel_rfl) rfl (fun _ => (fun _ h => h)) (OV.pickF rfl rfl) rfl (listed' := [true, true, true, true, true, true, true, true, true, true, false, false, false, false, false, false, false, false, false, false, false]) rfl ?_
      refine WH.free 10 rfl (by kernel_rfl) (by kernel_rfl) (by kernel_rfl) rfl (fun _ => (fun _ h => h)) (OV.move rfl) rfl (listed' := [true, true, true, true, true, true, true, true, true, true, true, false, false, false, false, false, false, false, false, false, false]) rfl ?_
      refine WH.skip 11 (b := false) rfl (by kernel_rfl) (by kernel_rfl) (by kernel_rfl) rfl (fun _ => (fun _ h => h)) rfl rfl rfl rfl (listed' := [true, true, true, true, true, true, true, true, true, true, true, true, false, false, false, false, false, false, false, false, false]) rfl ?_
      refine WH.skip 12 (b := false) rfl (by kernel_rfl) (by kernel_rfl) (by kernel_rfl) rfl (fun _ => (fun _ h => h)) rfl rfl rfl rfl (listed' := [true, true, true, true, true, true, true, true, true, true, true, true, true, false, false, false, false, false, false, false, false]) rfl ?_
      refine WH.skip 13 (b := false) rfl (by kernel_rfl) (by kernel_rfl) (by kernel_rfl) rfl (fun _ => (fun _ h => h)) rfl rfl rfl rfl (listed' := [true, true, true, true, true, true, true, true, true, true, true, true, true, true, false, false, false, false, false, false, false]) rfl ?_
      refine WH.skip 14 (b := false) rfl (by kernel_rfl) (by kernel_rfl) (by kernel_rfl) rfl (fun _ => (fun _ h => h)) rfl rfl rfl rfl (listed' := [true, true, true, true, true, true, true, true, true, true, true, true, true, true, true, false, false, false, false, false, false]) rfl ?_
      refine WH.skip 15 (b := false) rfl (by kernel_rfl) (by kernel_rfl) (by kernel_rfl) rfl (fun _ => (fun _ h => h)) rfl rfl rfl rfl (listed' := [true, true, true, true, true, true, true, true, true, true, true, true, true, true, true, true, false, false, false, false, false]) rfl ?_
      refine WH.skip 16 (b := false) rfl (by kernel_rfl) (by kernel_rfl) (by kernel_rfl) rfl (fun _ => (fun _ h => h)) rfl rfl rfl rfl (listed' := [true, true, true, true, true, true, true, true, true, true, true, true, true, true, true, true, true, false, false, false, false]) rfl ?_
      refine WH.skip 17 (b := false) rfl (by kernel_rfl) (by kernel_rfl) (by kernel_rfl) rfl (fun _ => (fun _ h => h)) rfl rfl rfl rfl (listed' := [true, true, true, true, true, true, true, true, true, true, true, true, true, true, true, true, true, true, false, false, false]) rfl ?_
      refine WH.skip 18 (b := false) rfl (by kernel_rfl) (by kernel_rfl) (by kernel_rfl) rfl (fun _ => (fun _ h => h)) rfl rfl rfl rfl (listed' := [true, true, true, true, true, true, true, true, true, true, true, true, true, true, true, true, true, true, true, false, false]) rfl ?_
      refine WH.skip 19 (b := false) rfl (by kernel_rfl) (by kernel_rfl) (by kernel_rfl) rfl (fun _ => (fun _ h => h)) rfl rfl rfl rfl (listed' := [true, true, true, true, true, true, true, true, true, true, true, true, true, true, true, true, true, true, true, true, false]) rfl ?_
      refine WH.free 20 rfl (by kernel_rfl) (by kernel_rfl) (by kernel_rfl) rfl (fun _ => (fun _ h => h)) (OV.pickF rfl rfl) rfl (listed' := [true, true, true, true, true, true, true, true, true, true, true, true, true, true, true, true, true, true, true, true, true]) rfl ?_
      refine WH.done (by kernel_rfl) ?_
      refine WX.next ?_
      refine WC.condF rfl ?_
      refine WC.exit ?_
      refine WX.then_exit ?_
      refine WX.then_exit ?_
      refine WX.block_hit ?_
      refine WX.next ?_
      refine WC.seq ?_
      have hkx := cmpL_ne hpre hle hcm
      exact absurd hkx (by omega)
  · try simp only [decide_eq_true_eq, decide_eq_false_iff_not, Bool.not_eq_true', Bool.not_eq_false'] at c10
    refine WC.exit ?_
    refine WX.then_exit ?_
    refine WX.then_exit ?_
    refine WX.block_hit ?_
    refine WX.next ?_
    refine WC.seq ?_
    refine WC.region ?_
    refine WL.val (OV.assign rfl) rfl ?_
    refine WL.nil ?_
    refine WX.next ?_
    refine WC.ret ?_
    exact WX.ret1 rfl rfl rfl (fun w' hw => ⟨rfl, hw.fr⟩)

set_option maxRecDepth 10000 in
theorem subset_calls (l m : List (List Int)) (a1 a2 : Option Addr) (n1 c1 n2 c2 : Nat) (w : World) (hr1 : RLi w a1 n1 l) (hr2 : RLi w a2 n2 m) (hs : ∀ x ∈ l, x ∈ m) : Calls Tryd.prog 40 #[.slice a1 n1 c1, .slice a2 n2 c2] w fun e w' => e = .returned (.bool true) ∧ Fr0 w w' := by
  refine enterS (args := [.slice a1 n1 c1, .slice a2 n2 c2]) (fun _ => False) Tryd.func40 rfl Tryd.ntmps40 rfl rfl ?_
  refine WC.seq ?_
  refine WC.region ?_
  refine WL.val (OV.assign rfl) rfl ?_
  refine WL.nil ?_
  refine WX.next ?_
  refine WC.seq ?_
  refine WC.seq ?_
  refine WC.region ?_
  refine WL.val (OV.assign rfl) rfl ?_
  refine WL.nil ?_
  refine WX.next ?_
  refine WC.block ?_
  have e1 := hr1.len
  have e3 := hr1.big
  refine WC.loop1 (fun (i : Nat) => [(0, .slice a1 n1 c1), (1, .slice a2 n2 c2), (5, .int .i64 (i : Int))])
      (fun i w' => Sat w (fun _ => False) (fun b => b < w.heap.size) w [] w')
      (fun i => n1 - i) 0 ⟨rfl, rfl, rfl, trivial⟩ (fun w' hw => hw) ?_
  intro i
  refine WC.seq ?_
  refine WC.seq ?_
  refine WC.region ?_
  refine WL.val (OV.move rfl) rfl ?_
  refine WL.val (OV.move rfl) rfl ?_
  first
  | (refine WL.val (OV.lenSlice rfl T.u29) rfl ?_)
  | (refine WL.val (OV.lenStr rfl T.u29) rfl ?_)
  refine WL.val (OV.lss rfl rfl) rfl ?_
  refine WL.nil ?_
  refine WX.next ?_
  refine WC.cond rfl (fun c9 => ?_) (fun c9 => ?_)
  · try simp only [decide_eq_true_eq, decide_eq_false_iff_not, Bool.not_eq_true', Bool.not_eq_false'] at c9
    refine WC.skip ?_
    refine WX.next ?_
    refine WC.seq ?_
    refine WC.block ?_
    refine WC.seq ?_
    refine WC.region ?_
    refine WL.val (OV.move rfl) rfl ?_
    refine WL.val (OV.move rfl) rfl ?_
    refine WL.val (OV.move rfl) rfl ?_
    obtain ⟨q1, x, ax, cx, rfl, hx, hxm, hxc, hxr⟩ := hr1.get (i := i) (by omega)
    refine WL.val (OV.indexSliceA (i := i) rfl rfl T.u29 T.z23 (by omega)) rfl ?_
    refine WL.val (OV.load1 (v := .slice ax x.length cx) rfl T.u23 rfl (fun _ hw => hw.keeps _ _ hxc)) rfl ?_
    refine WL.call0 (v := .bool true) (by kernel_rfl) rfl rfl (fun w' hw' => (has_calls m x a2 ax n2 c2 x.length cx (hr1.lens x hxm) w' (hr2.keeps hw'.keeps) (hxr.sat hw')).mono (fun e w'' ⟨h1, h2⟩ => ⟨h1.trans (by rw [decide_eq_true (hs x hxm)]), h2⟩)) ?_
    refine WL.val (OV.not rfl) rfl ?_
    refine WL.nil ?_
    refine WX.next ?_
    refine WC.condF rfl ?_
    refine WC.skip ?_
    refine WX.block_normal ?_
    refine WX.next ?_
    refine WC.region ?_
    refine WL.val (OV.move rfl) rfl ?_
    first
    | (refine WL.val (OV.addI rfl rfl (by omega)) rfl ?_)
    | (refine WL.val (OV.add rfl rfl) rfl ?_)
    refine WL.val (OV.assign rfl) rfl ?_
    refine WL.nil ?_
    exact WX.round1 (i + 1) ⟨rfl, rfl, rfl, trivial⟩ (fun w' hw => hw) (by show n1 - (i + 1) < n1 - i; omega)
  · try simp only [decide_eq_true_eq, decide_eq_false_iff_not, Bool.not_eq_true', Bool.not_eq_false'] at c9
    refine WC.exit ?_
    refine WX.then_exit ?_
    refine WX.then_exit ?_
    refine WX.block_hit ?_
    refine WX.next ?_
    refine WC.seq ?_
    refine WC.region ?_
    refine WL.val (OV.assign rfl) rfl ?_
    refine WL.nil ?_
    refine WX.next ?_
    refine WC.ret ?_
    exact WX.ret1 rfl rfl rfl (fun w' hw => ⟨rfl, hw.fr⟩)

set_option maxRecDepth 10000 in
theorem minus_calls (l m : List (List Int)) (a1 a2 : Option Addr) (n1 c1 n2 c2 : Nat) (w : World) (hr1 : RLi w a1 n1 l) (hr2 : RLi w a2 n2 m) (hs : ∀ x ∈ l, x ∉ m) : Calls Tryd.prog 28 #[.slice a1 n1 c1, .slice a2 n2 c2] w fun e w' => ∃ a' c', e = .returned (.slice a' n1 c') ∧ Fr0 w w' := by
  refine enterS (args := [.slice a1 n1 c1, .slice a2 n2 c2]) (fun _ => False) Tryd.func28 rfl Tryd.ntmps28 rfl rfl ?_
  refine WC.seq ?_
  refine WC.region ?_
  refine WL.val (OV.assign rfl) rfl ?_
  refine WL.nil ?_
  refine WX.next ?_
  refine WC.seq ?_
  refine WC.region ?_
  refine WL.val (OV.assign rfl) rfl ?_
  refine WL.nil ?_
  refine WX.next ?_
  refine WC.seq ?_
  refine WC.seq ?_
  refine WC.region ?_
  refine WL.val (OV.assign rfl) rfl ?_
  refine WL.nil ?_
  refine WX.next ?_
  refine WC.block ?_
  have e1 := hr1.len
  have e3 := hr1.big
  refine WC.loop4 (fun (i : Nat) (la : Option Addr) (lc : Nat) (vs : List Value) => [(0, .slice a1 n1 c1), (1, .slice a2 n2 c2), (5, .slice la i lc), (6, .int .i64 (i : Int))])
      (fun i la lc vs w' => i ≤ n1 ∧ Sat w (fun _ => False) (fun b => b < w.heap.size) w [row 23 1 la i lc vs] w')
      (fun i _ _ _ => n1 - i) 0 none 0 [] ⟨rfl, rfl, rfl, rfl, trivial⟩ (fun w' hw => ⟨by omega, hw.rowNil 23 1⟩) ?_
  intro i la lc vs
  refine WC.pure (fun hi => ?_)
  refine WC.seq ?_
  refine WC.seq ?_
  refine WC.region ?_
  refine WL.val (OV.move rfl) rfl ?_
  refine WL.val (OV.move rfl) rfl ?_
  first
  | (refine WL.val (OV.lenSlice rfl T.u29) rfl ?_)
  | (refine WL.val (OV.lenStr rfl T.u29) rfl ?_)
  refine WL.val (OV.lss rfl rfl) rfl ?_
  refine WL.nil ?_
  refine WX.next ?_
  refine WC.cond rfl (fun c10 => ?_) (fun c10 => ?_)
  · try simp only [decide_eq_true_eq, decide_eq_false_iff_not, Bool.not_eq_true', Bool.not_eq_false'] at c10
    refine WC.skip ?_
    refine WX.next ?_
    refine WC.seq ?_
    refine WC.block ?_
    refine WC.seq ?_
    refine WC.region ?_
    refine WL.val (OV.move rfl) rfl ?_
    refine WL.val (OV.move rfl) rfl ?_
    refine WL.val (OV.move rfl) rfl ?_
    obtain ⟨q1, x, ax, cx, rfl, hx, hxm, hxc, hxr⟩ := hr1.get (i := i) (by omega)
    refine WL.val (OV.indexSliceA (i := i) rfl rfl T.u29 T.z23 (by omega)) rfl ?_
    refine WL.val (OV.load1 (v := .slice ax x.length cx) rfl T.u23 rfl (fun _ hw => hw.keeps _ _ hxc)) rfl ?_
    refine WL.call0 (v := .bool false) (by kernel_rfl) rfl rfl (fun w' hw' => (has_calls m x a2 ax n2 c2 x.length cx (hr1.lens x hxm) w' (hr2.keeps hw'.keeps) (hxr.sat hw')).mono (fun e w'' ⟨h1, h2⟩ => ⟨h1.trans (by rw [decide_eq_false (hs x hxm)]), h2⟩)) ?_
    refine WL.val (OV.not rfl) rfl ?_
    refine WL.nil ?_
    refine WX.next ?_
    refine WC.condT rfl ?_
    refine WC.region ?_
    refine WL.val (OV.move rfl) rfl ?_
    refine WL.val (OV.move rfl) rfl ?_
    refine WL.val (OV.move rfl) rfl ?_
    refine WL.val (OV.indexSliceA (i := i) rfl rfl T.u29 T.z23 (by omega)) rfl ?_
    refine WL.val (OV.load1 (v := .slice ax x.length cx) rfl T.u23 rfl (fun _ hw => hw.keeps _ _ hxc)) rfl ?_
    refine WL.buildSlice1 T.u29 T.z23 T.zr23 rfl rfl rfl ?_
    intro b25
    refine WL.focus perm1 (WL.append (news := [.slice ax x.length cx]) rfl rfl T.apR (fun _ _ => own_src (.tail _ (.head _)) rfl) (by simp [Value.oneCell']) ⟨by omega, by unfold maxLen; omega⟩ rfl ?_)
    intro a26 c26
    refine WL.val (OV.assign rfl) rfl ?_
    refine WL.nil ?_
    refine WX.block_normal ?_
    refine WX.next ?_
    refine WC.region ?_
    refine WL.val (OV.move rfl) rfl ?_
    first
    | (refine WL.val (OV.addI rfl rfl (by omega)) rfl ?_)
    | (refine WL.val (OV.add rfl rfl) rfl ?_)
    refine WL.val (OV.assign rfl) rfl ?_
    refine WL.nil ?_
    exact WX.round4 (i + 1) a26 c26 (vs ++ [.slice ax x.length cx]) ⟨rfl, rfl, rfl, rfl, trivial⟩ (fun w' hw => ⟨by omega, (hw.perm perm1).drop⟩) (by show n1 - (i + 1) < n1 - i; omega)
  · try simp only [decide_eq_true_eq, decide_eq_false_iff_not, Bool.not_eq_true', Bool.not_eq_false'] at c10
    refine WC.exit ?_
    refine WX.then_exit ?_
    refine WX.then_exit ?_
    refine WX.block_hit ?_
    refine WX.next ?_
    refine WC.seq ?_
    refine WC.region ?_
    refine WL.val (OV.move rfl) rfl ?_
    refine WL.val (OV.assign rfl) rfl ?_
    refine WL.nil ?_
    refine WX.next ?_
    refine WC.ret ?_
    obtain rfl : i = n1 := by omega
    exact WX.ret1 rfl rfl rfl (fun w' hw => ⟨la, lc, rfl, hw.fr⟩)

theorem lenOf_rp (g : RelG) (parts : Int) : lenOf g.es parts = (selR (rp g) parts [] []).length := by
  rw [selR, (sortR_perm _).length_eq, List.length_map, lenOf, rp, List.filter_map, List.length_map]
  congr 1
  refine List.filter_congr ?_
  intro e _
  have h0 : fitsL e.row [] [] := ⟨rfl, by simp⟩
  simp [h0]
theorem sel_rising {g : RelG} (ok : RelOK g) (parts : Int) (cols key : List Int) : Rising (selR (rp g) parts cols key) := by
  intro i a b ha hb
  have h1 := sel_lens ok a (List.mem_of_getElem? ha)
  have h2 := sel_lens ok b (List.mem_of_getElem? hb)
  refine ⟨by rw [h1.1, h2.1], ?_⟩
  have hnd : (selR (rp g) parts cols key).Nodup := by
    refine ((sortR_perm _).nodup_iff).2 ?_
    have h3 : ((rp g).map (·.1)).Nodup := by have := ok.rows; simpa [rp, List.map_map, Function.comp_def] using this
    exact h3.sublist (List.Sublist.map _ List.filter_sublist)
  have hs := sortR_sorted (((rp g).filter fun p => inP parts p.2 && decide (fitsL p.1 cols key)).map (·.1))
  obtain ⟨hi, rfl⟩ := List.getElem?_eq_some_iff.1 ha
  obtain ⟨hj, rfl⟩ := List.getElem?_eq_some_iff.1 hb
  have h4 := List.pairwise_iff_getElem.1 hs i (i + 1) hi hj (by omega)
  have h5 := List.pairwise_iff_getElem.1 hnd i (i + 1) hi hj (by omega)
  rcases cmpL_lt_or (selR (rp g) parts cols key)[i] (selR (rp g) parts cols key)[i + 1] with h | h | h
  · exact h
  · exact absurd h h5
  · exact absurd h h4

set_option maxRecDepth 10000 in
theorem just_calls (g : RelG) (ok : RelOK g) (parts : Int) (B : List Hw.Item) (wa : Option Addr) (wc : Nat) (cs : List Col) (hB : ∀ i ∈ lstA wa wc cs, i ∈ B) (hwl : ∀ l ∈ cs.map Col.l, l.length ≤ 1099511627776) (hwi : ∀ l ∈ cs.map Col.l, i64s l) (hcl : cs.length ≤ 1099511627776)
    (hsel : (selR (rp g) parts [] []).Perm (cs.map Col.l)) (w : World) (hA : Holds (relA g ++ B) w) :
  Calls Tryd.prog 25 #[ptr g.r, .int .i64 parts, .slice wa cs.length wc] w fun e w' => e = .returned (.bool true) ∧ ∃ g', RelOK g' ∧ RelLe g g' ∧ g'.es = g.es ∧ Turns (relA g ++ B) (relA g' ++ B) w w' := by
  refine enterA hA (args := [ptr g.r, .int .i64 parts, .slice wa cs.length wc]) Tryd.func25 rfl Tryd.ntmps25 rfl rfl ?_
  refine WC.seq ?_
  refine WC.region ?_
  refine WL.val (OV.assign rfl) rfl ?_
  refine WL.nil ?_
  refine WX.next ?_
  refine WC.seq ?_
  refine WC.region ?_
  refine WL.val (OV.move rfl) rfl ?_
  refine WL.val (OV.move rfl) rfl ?_
  refine WL.callTA (ι := RelG × Option Addr × Nat × List Col) (vs := [ptr g.r, .int .i64 parts]) (vv := fun q => .slice q.2.1 q.2.2.2.length q.2.2.1) (pp := fun q => q.2.2.2.map Col.l = selR (rp g) parts [] [] ∧ RelOK q.1 ∧ RelLe g q.1 ∧ q.1.es = g.es) (relA g) (AA := fun q => relA q.1 ++ lstA q.2.1 q.2.2.1 q.2.2.2) rfl (by kernel_rfl) (by rfl) rfl (fun w' hw' hH => (rows_calls g ok parts w' hH).mono (fun en w'' ⟨g', la, lc, ys, h1, h2, h3, h4, h5, h6⟩ => ⟨(g', la, lc, ys), h1, ⟨h2, h3, h4, h5⟩, h6⟩)) ?_
  rintro ⟨g1, la, lc, ys⟩ hpp
  obtain ⟨hys, g1ok, g1le, g1es⟩ : ys.map Col.l = selR (rp g) parts [] [] ∧ RelOK g1 ∧ RelLe g g1 ∧ g1.es = g.es := hpp
  have hysn : ys.length ≤ g.es.length := sel_all_len hys
  rw [List.append_assoc]
  have hal : ∀ r ∈ ys.map Col.l, r.length = g.width ∧ i64s r := by rw [hys]; exact sel_lens ok
  have hb1 := ok.wl
  have hb2 := ok.el
  refine WL.val (OV.assign rfl) rfl ?_
  refine WL.nil ?_
  refine WX.next ?_
  refine WC.seq ?_
  refine WC.region ?_
  refine WL.val (OV.move rfl) rfl ?_
  refine WL.call0 (v := .bool true) (by kernel_rfl) rfl rfl (fun w' hw' => rising_calls (ys.map Col.l) la ys.length lc w' (RLi.of_lst (c := lc) hw' (fun i hi => List.mem_append_right _ (List.mem_append_left _ hi)) (by omega) (fun l hl => by have := (hal l hl).1; omega) (fun l hl => (hal l hl).2)) (by rw [hys]; exact sel_rising ok _ _ _)) ?_
  refine WL.val (OV.move rfl) rfl ?_
  refine WL.known (t := 13) (b := true) rfl (by rfl) ?_
  refine WL.go (b := true) rfl rfl rfl ?_
  refine WL.val (OV.move rfl) rfl ?_
  refine WL.go (b := true) rfl rfl rfl ?_
  refine WL.val (OV.move rfl) rfl ?_
  refine WL.go (b := true) rfl rfl rfl ?_
  refine WL.call0 (v := .bool true) (by kernel_rfl) rfl rfl (fun w' hw' => subset_calls (ys.map Col.l) (cs.map Col.l) la wa ys.length lc cs.length wc w' (RLi.of_lst (c := lc) hw' (fun i hi => List.mem_append_right _ (List.mem_append_left _ hi)) (by omega) (fun l hl => by have := (hal l hl).1; omega) (fun l hl => (hal l hl).2)) (RLi.of_lst (c := wc) hw' (fun i hi => List.mem_append_right _ (List.mem_append_right _ (hB i hi))) (by omega) hwl hwi) (fun x hx => by rw [hys] at hx; exact hsel.mem_iff.1 hx)) ?_
  refine WL.val (OV.pickT rfl rfl) rfl ?_
  refine WL.val (OV.move rfl) rfl ?_
  refine WL.known (t := 18) (b := true) rfl (by rfl) ?_
  refine WL.go (b := true) rfl rfl rfl ?_
  refine WL.val (OV.move rfl) rfl ?_
  refine WL.go (b := true) rfl rfl rfl ?_
  refine WL.val (OV.move rfl) rfl ?_
  refine WL.go (b := true) rfl rfl rfl ?_
  refine WL.call0 (v := .bool true) (by kernel_rfl) rfl rfl (fun w' hw' => subset_calls (cs.map Col.l) (ys.map Col.l) wa la cs.length wc ys.length lc w' (RLi.of_lst (c := wc) hw' (fun i hi => List.mem_append_right _ (List.mem_append_right _ (hB i hi))) (by omega) hwl hwi) (RLi.of_lst (c := lc) hw' (fun i hi => List.mem_append_right _ (List.mem_append_left _ hi)) (by omega) (fun l hl => by have := (hal l hl).1; omega) (fun l hl => (hal l hl).2)) (fun x hx => by rw [hys]; exact hsel.mem_iff.2 hx)) ?_
  refine WL.val (OV.pickT rfl rfl) rfl ?_
  refine WL.val (OV.move rfl) rfl ?_
  refine WL.known (t := 23) (b := true) rfl (by rfl) ?_
  refine WL.go (b := true) rfl rfl rfl ?_
  refine WL.val (OV.move rfl) rfl ?_
  refine WL.go (b := true) rfl rfl rfl ?_
  refine WL.val (OV.move rfl) rfl ?_
  refine WL.go (b := true) rfl rfl rfl ?_
  refine WL.call0 (v := .int .i64 (ys.length : Int)) (vs := [ptr g1.r, .int .i64 parts]) (by kernel_rfl) (by rw [g1le.r]; rfl) rfl (fun w' hw' => (len_calls g1 g1ok parts w' hw'.holds).mono (fun e w'' ⟨h1, h2⟩ => ⟨h1.trans (by rw [lenOf_rp, show rp g1 = rp g from by unfold rp; rw [g1es], ← hys, List.length_map]), h2⟩)) ?_
  refine WL.go (b := true) rfl rfl rfl ?_
  refine WL.val (OV.move rfl) rfl ?_
  refine WL.go (b := true) rfl rfl rfl ?_
  first
  | (refine WL.val (OV.lenSlice rfl T.u29) rfl ?_)
  | (refine WL.val (OV.lenStr rfl T.u29) rfl ?_)
  refine WL.go (b := true) rfl rfl rfl ?_
  refine WL.val ((OV.eql rfl rfl).cast (u := .bool true) (by congr 1; exact decide_eq_true rfl)) rfl ?_
  refine WL.val (OV.pickT rfl rfl) rfl ?_
  refine WL.val (OV.assign rfl) rfl ?_
  refine WL.nil ?_
  refine WX.next ?_
  refine WC.ret ?_
  exact WX.ret1 rfl rfl rfl (fun w' hw => ⟨rfl, g1, g1ok, g1le, g1es, (hw.pick [relA g1, lstA la lc ys, B] [0, 2] 3 rfl (by decide) (by decide)).turned⟩)

end Go.Proofs.YtijplknkpkmblaaDoor
