/- Contracts of functions of the program: what each returns and leaves in memory. Printed by gen.py and walk.py. -/
import Derived.Test.YtijplknkpkmblaaGreatDoorK2
import Derived.Test.YtijplknkpkmblaaGreatDoorHxSort
namespace Go.Proofs.YtijplknkpkmblaaGreatDoor
open Go Go.Hw
set_option linter.unusedSimpArgs false
set_option linter.unusedVariables false
/-- Of two rows: -1, 0 or 1. -/
def cmpL : List Int → List Int → Int
  | [], [] => 0
  | [], _ :: _ => -1
  | _ :: _, [] => 1
  | x :: l, y :: m => if x < y then -1 else if y < x then 1 else cmpL l m
theorem cmpL_self : ∀ l : List Int, cmpL l l = 0
  | [] => rfl
  | x :: l => by simp [cmpL, cmpL_self l]
theorem cmpL_vals : ∀ l m : List Int, cmpL l m = -1 ∨ cmpL l m = 0 ∨ cmpL l m = 1
  | [], [] => by simp [cmpL]
  | [], _ :: _ => by simp [cmpL]
  | _ :: _, [] => by simp [cmpL]
  | x :: l, y :: m => by
    unfold cmpL
    split
    · simp
    · split
      · simp
      · exact cmpL_vals l m
theorem cmpL_eq : ∀ {l m : List Int}, cmpL l m = 0 → l = m
  | [], [], _ => rfl
  | [], _ :: _, h => by simp [cmpL] at h
  | _ :: _, [], h => by simp [cmpL] at h
  | x :: l, y :: m, h => by
    unfold cmpL at h
    split at h
    · simp at h
    · split at h
      · simp at h
      · rw [cmpL_eq h, show x = y by omega]
theorem cmpL_neg : ∀ l m : List Int, cmpL l m = - cmpL m l
  | [], [] => by simp [cmpL]
  | [], _ :: _ => by simp [cmpL]
  | _ :: _, [] => by simp [cmpL]
  | x :: l, y :: m => by
    unfold cmpL
    by_cases h1 : x < y
    · have h2 : ¬ y < x := by omega
      simp [h1, h2]
    · by_cases h2 : y < x
      · simp [h1, h2]
      · simp [h1, h2, cmpL_neg l m]
theorem cmpL_trans : ∀ {l m n : List Int}, cmpL l m < 0 → cmpL m n < 0 → cmpL l n < 0
  | [], [], _, h, _ => by simp [cmpL] at h
  | _ :: _, [], _, h, _ => by simp [cmpL] at h
  | [], _ :: _, [], _, h => by simp [cmpL] at h
  | [], _ :: _, _ :: _, _, _ => by simp [cmpL]
  | _ :: _, _ :: _, [], _, h => by simp [cmpL] at h
  | x :: l, y :: m, z :: n, h1, h2 => by
    unfold cmpL at h1 h2 ⊢
    by_cases hxz : x < z
    · simp [hxz]
    · by_cases a1 : x < y
      · have a2 : ¬ y < z := by omega
        have a3 : z < y := by omega
        simp [a2, a3] at h2
      · by_cases a2 : y < x
        · simp [a1, a2] at h1
        · have e1 : x = y := by omega
          subst e1
          by_cases a3 : z < x
          · simp [hxz, a3] at h2
          · have a4 : ¬ x < x := by omega
            simp only [a4, if_false] at h1
            simp only [hxz, a3, if_false] at h2 ⊢
            exact cmpL_trans h1 h2
theorem cmpL_lt_or (l m : List Int) : cmpL l m < 0 ∨ l = m ∨ cmpL m l < 0 := by
  rcases cmpL_vals l m with h | h | h
  · left; omega
  · exact .inr (.inl (cmpL_eq h))
  · right; right
    have := cmpL_neg m l
    omega
theorem cmpL_swo {α : Type} (f : α → List Int) : Go.Sort.SWO (Go.Proofs.ltOf fun x y => cmpL (f x) (f y)) where
  irrefl x := by simp [Go.Proofs.ltOf, cmpL_self]
  trans x y z h1 h2 := by
    simp only [Go.Proofs.ltOf, decide_eq_true_eq] at *
    exact cmpL_trans h1 h2
  ntrans x y z h1 h2 := by
    simp only [Go.Proofs.ltOf, decide_eq_false_iff_not] at *
    intro h
    rcases cmpL_lt_or (f x) (f y) with a | a | a
    · exact h1 a
    · rw [a] at h
      exact h2 h
    · exact h2 (cmpL_trans a h)
theorem cmpL_drop {l m : List Int} {i : Nat} (hl : i < l.length) (hm : i < m.length) (h : cmpL l m = cmpL (l.drop i) (m.drop i)) : cmpL l m = if l.getD i 0 < m.getD i 0 then -1 else if m.getD i 0 < l.getD i 0 then 1 else cmpL (l.drop (i + 1)) (m.drop (i + 1)) := by
  rw [h, List.drop_eq_getElem_cons hl, List.drop_eq_getElem_cons hm]
  simp only [List.getD_eq_getElem?_getD, List.getElem?_eq_getElem hl, List.getElem?_eq_getElem hm, Option.getD_some]
  rfl
def cmpI (x y : Int) : Int := if x < y then -1 else if y < x then 1 else 0

set_option maxRecDepth 10000 in
theorem isNaN_pure (x : Int) (w : World) : Calls Tryz.prog 64 #[.int .i64 x] w fun e w' => e = .returned (.bool false) ∧ w' = w := by
  refine enter (args := [.int .i64 x]) Tryz.func64 rfl Tryz.ntmps64 rfl ?_
  rw [argEnv_eq]
  show WC _ _ _ _ (argEnv 0 [.int .i64 x]) (fun w' => w' = w) _
  simp only [argEnv]
  refine WC.seq ?_
  refine WC.region ?_
  refine WL.val (OV.assign rfl) rfl ?_
  refine WL.nil ?_
  refine WX.next ?_
  refine WC.seq ?_
  refine WC.region ?_
  refine WL.val (OV.move rfl) rfl ?_
  refine WL.val (OV.move rfl) rfl ?_
  refine WL.val (OV.neq rfl rfl) rfl ?_
  refine WL.val (OV.assign rfl) rfl ?_
  refine WL.nil ?_
  refine WX.next ?_
  refine WC.ret ?_
  exact WX.ret1 rfl rfl rfl (fun w' hw' => ⟨by simp, hw'⟩)

set_option maxRecDepth 10000 in
theorem cmpInt_pure (x y : Int) (w : World) : Calls Tryz.prog 46 #[.int .i64 x, .int .i64 y] w fun e w' => e = .returned (.int .i64 (cmpI x y)) ∧ w' = w := by
  refine enter (args := [.int .i64 x, .int .i64 y]) Tryz.func46 rfl Tryz.ntmps46 rfl ?_
  rw [argEnv_eq]
  show WC _ _ _ _ (argEnv 0 [.int .i64 x, .int .i64 y]) (fun w' => w' = w) _
  simp only [argEnv]
  refine WC.seq ?_
  refine WC.region ?_
  refine WL.val (OV.assign rfl) rfl ?_
  refine WL.nil ?_
  refine WX.next ?_
  refine WC.seq ?_
  refine WC.region ?_
  refine WL.val (OV.move rfl) rfl ?_
  refine WL.call (ι := Unit) (vv := fun _ => .bool false) (SS := fun _ w' => w' = w) (by kernel_rfl) rfl rfl (fun w' hw' => (isNaN_pure x w').mono (fun e w'' ⟨h1, h2⟩ => ⟨(), h1, h2.trans hw'⟩)) ?_
  intro _
  refine WL.val (OV.assign rfl) rfl ?_
  refine WL.nil ?_
  refine WX.next ?_
  refine WC.seq ?_
  refine WC.region ?_
  refine WL.val (OV.move rfl) rfl ?_
  refine WL.call (ι := Unit) (vv := fun _ => .bool false) (SS := fun _ w' => w' = w) (by kernel_rfl) rfl rfl (fun w' hw' => (isNaN_pure y w').mono (fun e w'' ⟨h1, h2⟩ => ⟨(), h1, h2.trans hw'⟩)) ?_
  intro _
  refine WL.val (OV.assign rfl) rfl ?_
  refine WL.nil ?_
  refine WX.next ?_
  refine WC.seq ?_
  refine WC.seq ?_
  refine WC.region ?_
  refine WL.val (OV.move rfl) rfl ?_
  refine WL.nil ?_
  refine WX.next ?_
  refine WC.condF rfl ?_
  refine WC.skip ?_
  refine WX.next ?_
  refine WC.seq ?_
  refine WC.seq ?_
  refine WC.region ?_
  refine WL.val (OV.move rfl) rfl ?_
  refine WL.nil ?_
  refine WX.next ?_
  refine WC.condF rfl ?_
  refine WC.skip ?_
  refine WX.next ?_
  refine WC.seq ?_
  refine WC.seq ?_
  refine WC.region ?_
  refine WL.val (OV.move rfl) rfl ?_
  refine WL.val (OV.move rfl) rfl ?_
  refine WL.val (OV.lss rfl rfl) rfl ?_
  refine WL.nil ?_
  refine WX.next ?_
  refine WC.cond rfl (fun c16 => ?_) (fun c16 => ?_)
  · try simp only [decide_eq_true_eq, decide_eq_false_iff_not, Bool.not_eq_true', Bool.not_eq_false'] at c16
    refine WC.seq ?_
    refine WC.region ?_
    refine WL.val (OV.assign rfl) rfl ?_
    refine WL.nil ?_
    refine WX.next ?_
    refine WC.ret ?_
    refine WX.then_ret ?_
    exact WX.ret1 rfl rfl rfl (fun w' hw' => ⟨by simp [cmpI, c16], hw'⟩)
  · try simp only [decide_eq_true_eq, decide_eq_false_iff_not, Bool.not_eq_true', Bool.not_eq_false'] at c16
    refine WC.skip ?_
    refine WX.next ?_
    refine WC.seq ?_
    refine WC.seq ?_
    refine WC.region ?_
    refine WL.val (OV.move rfl) rfl ?_
    refine WL.val (OV.move rfl) rfl ?_
    refine WL.val (OV.gtr rfl rfl) rfl ?_
    refine WL.nil ?_
    refine WX.next ?_
    refine WC.cond rfl (fun c19 => ?_) (fun c19 => ?_)
    · try simp only [decide_eq_true_eq, decide_eq_false_iff_not, Bool.not_eq_true', Bool.not_eq_false'] at c19
      refine WC.seq ?_
      refine WC.region ?_
      refine WL.val (OV.assign rfl) rfl ?_
      refine WL.nil ?_
      refine WX.next ?_
      refine WC.ret ?_
      refine WX.then_ret ?_
      exact WX.ret1 rfl rfl rfl (fun w' hw' => ⟨by simp [cmpI, c16, c19], hw'⟩)
    · try simp only [decide_eq_true_eq, decide_eq_false_iff_not, Bool.not_eq_true', Bool.not_eq_false'] at c19
      refine WC.skip ?_
      refine WX.next ?_
      refine WC.seq ?_
      refine WC.region ?_
      refine WL.val (OV.assign rfl) rfl ?_
      refine WL.nil ?_
      refine WX.next ?_
      refine WC.ret ?_
      exact WX.ret1 rfl rfl rfl (fun w' hw' => ⟨by simp [cmpI, c16, c19], hw'⟩)

set_option maxRecDepth 10000 in
theorem compare_pure (l m : List Int) (a1 a2 : Option Addr) (n1 c1 n2 c2 : Nat) (h1 : n1 ≤ 9223372036854775807) (h2 : n2 ≤ 9223372036854775807) (w : World) (hr1 : RI w a1 n1 l) (hr2 : RI w a2 n2 m) : Calls Tryz.prog 33 #[.slice a1 n1 c1, .slice a2 n2 c2] w fun e w' => e = .returned (.int .i64 (cmpL l m)) ∧ w' = w := by
  refine enter (args := [.slice a1 n1 c1, .slice a2 n2 c2]) Tryz.func33 rfl Tryz.ntmps33 rfl ?_
  rw [argEnv_eq]
  show WC _ _ _ _ (argEnv 0 [.slice a1 n1 c1, .slice a2 n2 c2]) (fun w' => w' = w) _
  simp only [argEnv]
  refine WC.seq ?_
  refine WC.region ?_
  refine WL.val (OV.assign rfl) rfl ?_
  refine WL.nil ?_
  refine WX.next ?_
  refine WC.seq ?_
  refine WC.seq ?_
  refine WC.region ?_
  refine WL.val (OV.move rfl) rfl ?_
  first
  | (refine WL.val (OV.lenSlice rfl T.u32) rfl ?_)
  | (refine WL.val (OV.lenStr rfl T.u32) rfl ?_)
  refine WL.val (OV.move rfl) rfl ?_
  refine WL.nil ?_
  refine WX.next ?_
  refine WC.block ?_
  refine WC.loop1 (fun (i : Nat) => [(0, .slice a1 n1 c1), (1, .slice a2 n2 c2), (9, .slice a1 n1 c1), (10, .int .i64 (n1 : Int)), (11, .int .i64 (i : Int))])
      (fun i w' => (i ≤ n1 ∧ i ≤ n2 ∧ cmpL l m = cmpL (l.drop i) (m.drop i)) ∧ w' = w)
      (fun i => n1 - i) 0 ⟨rfl, rfl, rfl, rfl, rfl, trivial⟩ (fun w' hw => ⟨⟨by omega, by omega, rfl⟩, hw⟩) ?_
  intro i
  refine WC.pure (fun hi => ?_)
  obtain ⟨hi0, hi1, hi2⟩ := hi
  refine WC.seq ?_
  refine WC.region ?_
  refine WL.val (OV.lss rfl rfl) rfl ?_
  refine WL.nil ?_
  refine WX.next ?_
  refine WC.seq ?_
  refine WC.cond rfl (fun c12 => ?_) (fun c12 => ?_)
  · try simp only [decide_eq_true_eq, decide_eq_false_iff_not, Bool.not_eq_true', Bool.not_eq_false'] at c12
    refine WC.skip ?_
    refine WX.next ?_
    refine WC.seq ?_
    refine WC.block ?_
    refine WC.seq ?_
    refine WC.region ?_
    refine WL.val (OV.move rfl) rfl ?_
    have hil : i < l.length := by have := hr1.1; omega
    obtain ⟨q1, rfl⟩ : ∃ q, a1 = some q := by
      cases a1 with
      | none => have := hr1.2.1 rfl; have := hr1.1; omega
      | some q => exact ⟨q, rfl⟩
    refine WL.val (OV.indexSliceA rfl rfl T.u32 T.z3 (by omega)) rfl ?_
    refine WL.val (OV.load1 rfl T.u3 rfl (fun _ hw => by rw [hw]; exact hr1.cell hil)) rfl ?_
    refine WL.val (OV.assign rfl) rfl ?_
    refine WL.val (OV.assign rfl) rfl ?_
    refine WL.nil ?_
    refine WX.next ?_
    refine WC.seq ?_
    refine WC.seq ?_
    refine WC.region ?_
    refine WL.val (OV.move rfl) rfl ?_
    refine WL.val (OV.move rfl) rfl ?_
    first
    | (refine WL.val (OV.lenSlice rfl T.u32) rfl ?_)
    | (refine WL.val (OV.lenStr rfl T.u32) rfl ?_)
    refine WL.val (OV.geq rfl rfl) rfl ?_
    refine WL.nil ?_
    refine WX.next ?_
    refine WC.cond rfl (fun c19 => ?_) (fun c19 => ?_)
    · try simp only [decide_eq_true_eq, decide_eq_false_iff_not, Bool.not_eq_true', Bool.not_eq_false'] at c19
      refine WC.seq ?_
      refine WC.region ?_
      refine WL.val (OV.assign rfl) rfl ?_
      refine WL.nil ?_
      refine WX.next ?_
      refine WC.ret ?_
      refine WX.then_ret ?_
      refine WX.block_ret ?_
      refine WX.then_ret ?_
      refine WX.then_ret ?_
      refine WX.block_ret ?_
      refine WX.then_ret ?_
      exact WX.ret1 rfl rfl rfl (fun w' hw' => ⟨by
        have e2 : m.drop i = [] := List.drop_eq_nil_of_le (by have := hr2.1; omega)
        have hil : i < l.length := by have := hr1.1; omega
        rw [hi2, e2, List.drop_eq_getElem_cons hil]
        rfl, hw'⟩)
    · try simp only [decide_eq_true_eq, decide_eq_false_iff_not, Bool.not_eq_true', Bool.not_eq_false'] at c19
      refine WC.skip ?_
      refine WX.next ?_
      refine WC.seq ?_
      refine WC.region ?_
      refine WL.val (OV.move rfl) rfl ?_
      refine WL.val (OV.move rfl) rfl ?_
      have him : i < m.length := by have := hr2.1; omega
      obtain ⟨q2, rfl⟩ : ∃ q, a2 = some q := by
        cases a2 with
        | none => have := hr2.2.1 rfl; have := hr2.1; omega
        | some q => exact ⟨q, rfl⟩
      refine WL.val (OV.indexSliceA rfl rfl T.u32 T.z3 (by omega)) rfl ?_
      refine WL.val (OV.load1 rfl T.u3 rfl (fun _ hw => by rw [hw]; exact hr2.cell him)) rfl ?_
      refine WL.val (OV.assign rfl) rfl ?_
      refine WL.nil ?_
      refine WX.next ?_
      refine WC.seq ?_
      refine WC.region ?_
      refine WL.val (OV.move rfl) rfl ?_
      refine WL.val (OV.move rfl) rfl ?_
      refine WL.call (ι := Unit) (vv := fun _ => .int .i64 (cmpI (l.getD i 0) (m.getD i 0))) (SS := fun _ w' => w' = w) (by kernel_rfl) rfl rfl (fun w' hw' => (cmpInt_pure _ _ w').mono (fun e w'' ⟨h1, h2⟩ => ⟨(), h1, h2.trans hw'⟩)) ?_
      intro _
      have hst := cmpL_drop hil him hi2
      refine WL.val (OV.assign rfl) rfl ?_
      refine WL.nil ?_
      refine WX.next ?_
      refine WC.seq ?_
      refine WC.region ?_
      refine WL.val (OV.move rfl) rfl ?_
      refine WL.val (OV.neq rfl rfl) rfl ?_
      refine WL.nil ?_
      refine WX.next ?_
      refine WC.cond rfl (fun c28 => ?_) (fun c28 => ?_)
      · try simp only [decide_eq_true_eq, decide_eq_false_iff_not, Bool.not_eq_true', Bool.not_eq_false'] at c28
        refine WC.seq ?_
        refine WC.region ?_
        refine WL.val (OV.move rfl) rfl ?_
        refine WL.val (OV.assign rfl) rfl ?_
        refine WL.nil ?_
        refine WX.next ?_
        refine WC.ret ?_
        refine WX.block_ret ?_
        refine WX.then_ret ?_
        refine WX.then_ret ?_
        refine WX.block_ret ?_
        refine WX.then_ret ?_
        exact WX.ret1 rfl rfl rfl (fun w' hw' => ⟨by
          rw [hst]
          congr 2
          have h0 : cmpI (l.getD i 0) (m.getD i 0) ≠ 0 := by simpa using c28
          by_cases g1 : l.getD i 0 < m.getD i 0
          · simp only [cmpI, g1, if_true]
          · by_cases g2 : m.getD i 0 < l.getD i 0
            · simp only [cmpI, g1, g2, if_true, if_false]
            · exact absurd (by simp only [cmpI, g1, g2, if_false]) h0, hw'⟩)
      · try simp only [decide_eq_true_eq, decide_eq_false_iff_not, Bool.not_eq_true', Bool.not_eq_false'] at c28
        refine WC.skip ?_
        refine WX.block_normal ?_
        refine WX.next ?_
        refine WC.region ?_
        first
        | (refine WL.val (OV.addI rfl rfl (by omega)) rfl ?_)
        | (refine WL.val (OV.add rfl rfl) rfl ?_)
        refine WL.val (OV.move rfl) rfl ?_
        refine WL.nil ?_
        have h0 : cmpI (l.getD i 0) (m.getD i 0) = 0 := by simpa using c28
        exact WX.round1 (i + 1) ⟨rfl, rfl, rfl, rfl, rfl, trivial⟩ (fun w' hw => ⟨⟨by omega, by omega, by
          rw [hst]
          unfold cmpI at h0
          split at h0
          · simp at h0
          · rename_i g1
            rw [if_neg g1]
            split at h0
            · simp at h0
            · rename_i g2
              rw [if_neg g2]⟩, hw⟩) (by show n1 - (i + 1) < n1 - i; omega)
  · try simp only [decide_eq_true_eq, decide_eq_false_iff_not, Bool.not_eq_true', Bool.not_eq_false'] at c12
    refine WC.exit ?_
    refine WX.then_exit ?_
    refine WX.then_exit ?_
    refine WX.block_hit ?_
    refine WX.next ?_
    refine WC.seq ?_
    refine WC.seq ?_
    refine WC.region ?_
    refine WL.val (OV.move rfl) rfl ?_
    first
    | (refine WL.val (OV.lenSlice rfl T.u32) rfl ?_)
    | (refine WL.val (OV.lenStr rfl T.u32) rfl ?_)
    refine WL.val (OV.move rfl) rfl ?_
    first
    | (refine WL.val (OV.lenSlice rfl T.u32) rfl ?_)
    | (refine WL.val (OV.lenStr rfl T.u32) rfl ?_)
    refine WL.val (OV.lss rfl rfl) rfl ?_
    refine WL.nil ?_
    refine WX.next ?_
    refine WC.cond rfl (fun c35 => ?_) (fun c35 => ?_)
    · try simp only [decide_eq_true_eq, decide_eq_false_iff_not, Bool.not_eq_true', Bool.not_eq_false'] at c35
      refine WC.seq ?_
      refine WC.region ?_
      refine WL.val (OV.assign rfl) rfl ?_
      refine WL.nil ?_
      refine WX.next ?_
      refine WC.ret ?_
      refine WX.then_ret ?_
      exact WX.ret1 rfl rfl rfl (fun w' hw' => ⟨by
        have e1 : l.drop i = [] := List.drop_eq_nil_of_le (by have := hr1.1; omega)
        have him : i < m.length := by have := hr2.1; omega
        rw [hi2, e1, List.drop_eq_getElem_cons him]
        rfl, hw'⟩)
    · try simp only [decide_eq_true_eq, decide_eq_false_iff_not, Bool.not_eq_true', Bool.not_eq_false'] at c35
      refine WC.skip ?_
      refine WX.next ?_
      refine WC.seq ?_
      refine WC.region ?_
      refine WL.val (OV.assign rfl) rfl ?_
      refine WL.nil ?_
      refine WX.next ?_
      refine WC.ret ?_
      exact WX.ret1 rfl rfl rfl (fun w' hw' => ⟨by
        have e1 : l.drop i = [] := List.drop_eq_nil_of_le (by have := hr1.1; omega)
        have e2 : m.drop i = [] := List.drop_eq_nil_of_le (by have := hr2.1; omega)
        rw [hi2, e1, e2]
        rfl, hw'⟩)

set_option maxRecDepth 10000 in
theorem keyOf_calls (l : List Int) (a : Option Addr) (m c : Nat) (hi : i64s l) (hm : m ≤ 1099511627776) (w : World) (hr : RI w a m l) : Calls Tryz.prog 31 #[.slice a m c] w fun e w' => e = .returned (.string (keyB l)) ∧ Fr0 w w' := by
  refine enterS (args := [.slice a m c]) (fun _ => False) Tryz.func31 rfl Tryz.ntmps31 rfl rfl ?_
  refine WC.seq ?_
  refine WC.region ?_
  refine WL.val (OV.assign rfl) rfl ?_
  refine WL.nil ?_
  refine WX.next ?_
  refine WC.seq ?_
  refine WC.region ?_
  refine WL.val (OV.move rfl) rfl ?_
  refine WL.call0 (by kernel_rfl) rfl rfl (fun w' hw => key_calls l a m c hi hm w' (hr.sat hw)) ?_
  refine WL.val (OV.assign rfl) rfl ?_
  refine WL.nil ?_
  refine WX.next ?_
  refine WC.ret ?_
  exact WX.ret1 rfl rfl rfl (fun w hw => ⟨rfl, hw.fr⟩)

set_option maxRecDepth 10000 in
theorem clone_calls (l : List Int) (a : Option Addr) (m c : Nat) (hm : m ≤ 1099511627776) (w : World) (hr : RI w a m l) : Calls Tryz.prog 34 #[.slice a m c] w fun e w' => ∃ a' c', e = .returned (.slice a' l.length c') ∧ Fr0 w w' ∧ New w w' (row 3 1 a' l.length c' (ints l)) := by
  refine enterS (args := [.slice a m c]) (fun _ => False) Tryz.func34 rfl Tryz.ntmps34 rfl rfl ?_
  refine WC.seq ?_
  refine WC.region ?_
  refine WL.val (OV.assign rfl) rfl ?_
  refine WL.nil ?_
  refine WX.next ?_
  refine WC.seq ?_
  refine WC.seq ?_
  refine WC.region ?_
  refine WL.val (OV.move rfl) rfl ?_
  refine WL.val (OV.eqlSN T.u32 rfl rfl) rfl ?_
  refine WL.nil ?_
  refine WX.next ?_
  refine WC.cond rfl (fun c4 => ?_) (fun c4 => ?_)
  · skip -- c4
    refine WC.seq ?_
    refine WC.region ?_
    refine WL.val (OV.assign rfl) rfl ?_
    refine WL.nil ?_
    refine WX.next ?_
    refine WC.ret ?_
    refine WX.then_ret ?_
    have hn : a = none := by cases a <;> simp at c4; rfl
    have hl : l = [] := List.eq_nil_of_length_eq_zero (by rw [hr.1]; exact hr.2.1 hn)
    subst hl
    exact WX.ret1 rfl rfl rfl (fun w hw => ⟨none, 0, rfl, hw.fr, row_nil _ _ _, fun b ⟨q, hq, _⟩ => by cases hq⟩)
  · skip -- c4
    refine WC.skip ?_
    refine WX.next ?_
    refine WC.seq ?_
    refine WC.region ?_
    refine WL.buildSlice0 T.u32 T.z3 rfl ?_
    intro b5
    refine WL.val (OV.move rfl) rfl ?_
    have hml := hr.1
    refine WL.append (news := ints l) rfl rfl T.apI (fun _ hw => Src.of_ri hml hr.2.1 (fun _ hw => hr.sat (M := fun _ => False) hw.drop)) (ints_one _) ⟨by omega, by unfold maxLen; omega⟩ rfl ?_
    intro a7 c7
    refine WL.val (OV.assign rfl) rfl ?_
    refine WL.nil ?_
    refine WX.next ?_
    refine WC.ret ?_
    have hml := hr.1
    exact WX.ret1 rfl rfl rfl (fun w hw => ⟨a7, c7, by rw [hml, Nat.zero_add], hw.fr, by
      have := hw.new0 (.head _)
      rw [List.nil_append, Nat.zero_add, ← hml] at this
      exact this⟩)

end Go.Proofs.YtijplknkpkmblaaGreatDoor
