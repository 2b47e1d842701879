/- Regions that draw their order, one of whose operations (a bar) waits for every load: behind it the loads' cells may turn. -/
import Derived.Test.YtplebagdajdcnaaDoorHwTurn
set_option linter.unusedVariables false
set_option linter.unusedSimpArgs false
namespace Go
section
variable {P : Program} {ops : Array Oper} {Q : Exit → Act → World → Prop} {md : Region.Mode} {S : World → Prop} {bar : Nat → Bool}
/-- Whatever order is picked; S holds behind every operation till a bar has come up. -/
def wpAnyB (P : Program) (md : Region.Mode) (ops : Array Oper) (Q : Exit → Act → World → Prop) (S : World → Prop) (bar : Nat → Bool) : Nat → Bool → Array Bool → Act → World → Prop
  | 0, _, listed, a, w => Region.ready md ops listed = [] ∧ Q .normal a w
  | fuel + 1, fl, listed, a, w =>
    (Region.ready md ops listed = [] → Q .normal a w) ∧
    ∀ i ∈ Region.ready md ops listed, wpOp P ops Q i (fun a' w' => ((fl || bar i) = false → S w') ∧ wpAnyB P md ops Q S bar fuel (fl || bar i) (listed.setIfInBounds i true) a' w') a w
theorem wpAny_of_bar : ∀ (fuel : Nat) (fl : Bool) (listed : Array Bool) (a : Act) (w : World), wpAnyB P md ops Q S bar fuel fl listed a w → wpAny P md ops Q fuel listed a w
  | 0, _, _, _, _, h => h
  | fuel + 1, fl, _, _, _, h => ⟨h.1, fun i hi => wpOp_mono (fun a' w' h' => wpAny_of_bar fuel _ _ a' w' h'.2) (h.2 i hi)⟩

theorem wpAnyB_first {i : Nat} {oi : Oper} {v : Value} (hi : ops[i]? = some oi) (hsel : ∀ (j : Nat) (o : Oper) cs b, ops[j]? = some o → o.op ≠ .select cs b)
    (hQ : ∀ c a w, Q (.panic c) (a.put oi.dst v) w → Q (.panic c) a w) (hbi : bar i = false) (hdep : ∀ j oj, ops[j]? = some oj → bar j = true → ∃ e ∈ oj.after, Region.binds md e = true ∧ e.on = i) :
    ∀ (fuel : Nat) (listed : Array Bool) (a : Act) (w : World),
      (∀ j oj, ops[j]? = some oj → j ≠ i → listed.getD j true = false → (∀ e ∈ oj.after, Region.binds md e = true → e.on ≠ i) → oi.apart ops oj = true) →
      i ∈ Region.ready md ops listed → YieldsIf P ops S oi v a → S w →
      wpAnyB P md ops Q S bar fuel false (listed.setIfInBounds i true) (a.put oi.dst v) w → wpAnyB P md ops Q S bar (fuel + 1) false listed a w := by
  intro fuel
  induction fuel with
  | zero =>
    intro listed a w _ hr hy hS H
    refine ⟨fun h => (by rw [h] at hr; cases hr), fun j hj => ?_⟩
    by_cases hji : j = i
    · subst hji
      rw [hbi]
      exact hy.wpOp hi hS ⟨fun _ => hS, H⟩
    · have := ready_mono hj hji
      rw [H.1] at this
      cases this
  | succ fuel ih =>
    intro listed a w hfree hr hy hS H
    refine ⟨fun h => (by rw [h] at hr; cases hr), fun j hj => ?_⟩
    by_cases hji : j = i
    · subst hji
      rw [hbi]
      exact hy.wpOp hi hS ⟨fun _ => hS, H⟩
    · have h1 := H.2 j (ready_mono hj hji)
      obtain ⟨hjun, oj, hoj, hall⟩ := mem_ready.1 hj
      have hnot : ∀ e ∈ oj.after, Region.binds md e = true → e.on ≠ i := fun e he hb heq => by
        have h1 := hall e he hb
        have h0 := (mem_ready.1 hr).1
        rw [heq] at h1
        rcases Nat.lt_or_ge i listed.size with h' | h'
        · simp [h'] at h0 h1; rw [h0] at h1; cases h1
        · simp [Array.getElem?_eq_none h'] at h1
      have hbj : bar j = false := by
        cases hb : bar j with
        | false => rfl
        | true =>
          obtain ⟨e, he, hbe, heq⟩ := hdep j oj hoj hb
          exact absurd heq (hnot e he hbe)
      rw [hbj] at h1 ⊢
      have h2 := wpOp_putIf hoj (hfree j oj hoj hji hjun hnot) (fun cs b => hsel i oi cs b hi) (fun cs b => hsel j oj cs b hoj) hQ hy h1
      have hfree' : ∀ k ok, ops[k]? = some ok → k ≠ i → (listed.setIfInBounds j true).getD k true = false →
          (∀ e ∈ ok.after, Region.binds md e = true → e.on ≠ i) → oi.apart ops ok = true := fun k ok hk hki hun hno => by
        refine hfree k ok hk hki ?_ hno
        by_cases hjk : j = k
        · subst hjk; exact hjun
        · rw [getD_set_ne true hjk] at hun; exact hun
      refine wpOp_mono (fun a' w' h3 => ⟨h3.2.1, ih (listed.setIfInBounds j true) a' w' hfree' (ready_mono hr (Ne.symm hji)) h3.1 (h3.2.1 rfl) ?_⟩) h2
      rw [Array.setIfInBounds_comm _ _ hji]
      exact h3.2.2

theorem wpAnyB_free {i : Nat} {oi : Oper} {v : Value} (hi : ops[i]? = some oi) (hsel : ∀ (j : Nat) (o : Oper) cs b, ops[j]? = some o → o.op ≠ .select cs b)
    (hQ : ∀ c a w, Q (.panic c) (a.put oi.dst v) w → Q (.panic c) a w) (hbi : bar i = false) :
    ∀ (fuel : Nat) (fl : Bool) (listed : Array Bool) (a : Act) (w : World),
      (∀ j oj, ops[j]? = some oj → j ≠ i → listed.getD j true = false → (∀ e ∈ oj.after, Region.binds md e = true → e.on ≠ i) → oi.apart ops oj = true) →
      i ∈ Region.ready md ops listed → YieldsIf P ops (fun _ => True) oi v a → (fl = false → S w) →
      wpAnyB P md ops Q S bar fuel fl (listed.setIfInBounds i true) (a.put oi.dst v) w → wpAnyB P md ops Q S bar (fuel + 1) fl listed a w := by
  intro fuel
  induction fuel with
  | zero =>
    intro fl listed a w _ hr hy hS H
    refine ⟨fun h => (by rw [h] at hr; cases hr), fun j hj => ?_⟩
    by_cases hji : j = i
    · subst hji
      rw [hbi, Bool.or_false]
      exact hy.wpOp hi trivial ⟨hS, H⟩
    · have := ready_mono hj hji
      rw [H.1] at this
      cases this
  | succ fuel ih =>
    intro fl listed a w hfree hr hy hS H
    refine ⟨fun h => (by rw [h] at hr; cases hr), fun j hj => ?_⟩
    by_cases hji : j = i
    · subst hji
      rw [hbi, Bool.or_false]
      exact hy.wpOp hi trivial ⟨hS, H⟩
    · have h1 := H.2 j (ready_mono hj hji)
      obtain ⟨hjun, oj, hoj, hall⟩ := mem_ready.1 hj
      have hnot : ∀ e ∈ oj.after, Region.binds md e = true → e.on ≠ i := fun e he hb heq => by
        have h1 := hall e he hb
        have h0 := (mem_ready.1 hr).1
        rw [heq] at h1
        rcases Nat.lt_or_ge i listed.size with h' | h'
        · simp [h'] at h0 h1; rw [h0] at h1; cases h1
        · simp [Array.getElem?_eq_none h'] at h1
      have h2 := wpOp_putIf hoj (hfree j oj hoj hji hjun hnot) (fun cs b => hsel i oi cs b hi) (fun cs b => hsel j oj cs b hoj) hQ hy h1
      have hfree' : ∀ k ok, ops[k]? = some ok → k ≠ i → (listed.setIfInBounds j true).getD k true = false →
          (∀ e ∈ ok.after, Region.binds md e = true → e.on ≠ i) → oi.apart ops ok = true := fun k ok hk hki hun hno => by
        refine hfree k ok hk hki ?_ hno
        by_cases hjk : j = k
        · subst hjk; exact hjun
        · rw [getD_set_ne true hjk] at hun; exact hun
      refine wpOp_mono (fun a' w' h3 => ⟨h3.2.1, ih (fl || bar j) (listed.setIfInBounds j true) a' w' hfree' (ready_mono hr (Ne.symm hji)) h3.1 h3.2.1 ?_⟩) h2
      rw [Array.setIfInBounds_comm _ _ hji]
      exact h3.2.2
end
/-- Every bar waits for number i. -/
def barsWait (ops : Array Oper) (bars : List Nat) (i : Nat) : Bool :=
  (!bars.contains i) && bars.all fun j => match ops[j]? with
    | some o => o.after.toList.any fun e => Region.binds .any e && (e.on == i)
    | none => true
theorem barsWait_spec {ops : Array Oper} {bars : List Nat} {i : Nat} (h : barsWait ops bars i = true) :
    bars.contains i = false ∧ ∀ j oj, ops[j]? = some oj → bars.contains j = true → ∃ e ∈ oj.after, Region.binds .any e = true ∧ e.on = i := by
  unfold barsWait at h
  simp only [Bool.and_eq_true, Bool.not_eq_true', List.all_eq_true] at h
  refine ⟨h.1, fun j oj hj hb => ?_⟩
  have h2 := h.2 j (by simpa using hb)
  rw [hj] at h2
  simp only [List.any_eq_true, Bool.and_eq_true, beq_iff_eq] at h2
  obtain ⟨e, he, h3, h4⟩ := h2
  exact ⟨e, by simpa using he, h3, h4⟩
end Go
namespace Go.Hw
set_option linter.unusedVariables false
set_option linter.unusedSimpArgs false
open Go Go.RowKit
variable {w0 ws w : World} {M I : Nat → Prop} {ow : List Item} {i j : Item}
variable {P : Program} {ops : Array Oper} {Q : Post} {n : Nat} {ds : List Deferred} {e : Env} {rest : List Oper} {c : Code}
variable {dst : Option Tmp} {t lt : TypeId} {p : String} {af : Array Edge} {x y z : Operand} {v u : Value} {d : TypeDesc} {S S' C : World → Prop} {k : Nat}

def WHB (P : Program) (ops : Array Oper) (Q : Post) (n : Nat) (ds : List Deferred) (e : Env) (S C : World → Prop) (bars : List Nat) (fuel : Nat) (fl : Bool) (listed : List Bool) : Prop :=
  ∀ a w, Fits n ds e a → S w → wpAnyB P .any ops Q C (fun j => bars.contains j) fuel fl listed.toArray a w
theorem WC.barred {id : Nat} {l : List Oper} (C : World → Prop) (bars : List Nat) (hm : P.follows .mixedOrders = true) {m : Nat} (hl : l.length = m)
    (h : WHB P l.toArray (NoPanic Q) n ds e (Sat w0 M I ws ow) C bars m false (List.replicate m false)) : WC P Q n ds e (Sat w0 M I ws ow) (.region id l.toArray true) := by
  intro a w ha hw
  refine wp_region_noPanic (wp_region_any hm (wpAny_of_bar (S := C) (bar := fun j => bars.contains j) _ false _ _ _ ?_))
  have := h a { w with drawn := w.drawn + 1 } ha (hw.draw rfl rfl rfl rfl)
  simpa [hl] using this
section
variable {l : List Oper} {op : Op} {fuel : Nat} {listed : List Bool} {bars : List Nat} {fl : Bool}
theorem WHB.take (i : Nat) (hi : l[i]? = some ⟨some k, op, t, p, af, none⟩)
    (hs : Region.noSelect l.toArray = true) (hf : Region.free .any l.toArray listed.toArray i = true) (hr : (Region.ready .any l.toArray listed.toArray).contains i = true) (hb : barsWait l.toArray bars i = true)
    (hC : ∀ w, S w → C w) (hv : OV P n ds e C ⟨some k, op, t, p, af, none⟩ v) (hk : Nat.blt k n = true) {listed' : List Bool} (hl' : listed.set i true = listed')
    (h : WHB P l.toArray (NoPanic Q) n ds ((k, v) :: e) S C bars fuel false listed') : WHB P l.toArray (NoPanic Q) n ds e S C bars (fuel + 1) false listed := by
  intro a w ha hw
  have hi' := hi
  rw [← List.getElem?_toArray] at hi'
  obtain ⟨hb1, hb2⟩ := barsWait_spec hb
  refine wpAnyB_first hi' (Region.noSelect_spec hs) (fun _ _ _ h => h) hb1 hb2 fuel _ a w (Region.free_spec hi' hf) (by simpa using hr) (Or.inl ⟨by simp [Region.wanted], fun w' hw' => hv a w' ha hw'⟩) (hC w hw) ?_
  have := h _ w (ha.put hk v) hw
  rw [List.setIfInBounds_toArray, hl']
  exact this
theorem WHB.free (i : Nat) (hi : l[i]? = some ⟨some k, op, t, p, af, none⟩)
    (hs : Region.noSelect l.toArray = true) (hf : Region.free .any l.toArray listed.toArray i = true) (hr : (Region.ready .any l.toArray listed.toArray).contains i = true) (hb : bars.contains i = false)
    (hC : fl = false → ∀ w, S w → C w) (hv : OV P n ds e (fun _ => True) ⟨some k, op, t, p, af, none⟩ v) (hk : Nat.blt k n = true) {listed' : List Bool} (hl' : listed.set i true = listed')
    (h : WHB P l.toArray (NoPanic Q) n ds ((k, v) :: e) S C bars fuel fl listed') : WHB P l.toArray (NoPanic Q) n ds e S C bars (fuel + 1) fl listed := by
  intro a w ha hw
  have hi' := hi
  rw [← List.getElem?_toArray] at hi'
  refine wpAnyB_free hi' (Region.noSelect_spec hs) (fun _ _ _ h => h) hb fuel fl _ a w (Region.free_spec hi' hf) (by simpa using hr) (Or.inl ⟨by simp [Region.wanted], fun w' _ => hv a w' ha trivial⟩) (fun hfl => hC hfl w hw) ?_
  have := h _ w (ha.put hk v) hw
  rw [List.setIfInBounds_toArray, hl']
  exact this
def HContB (P : Program) (ops : Array Oper) (Q : Post) (C : World → Prop) (bars : List Nat) (fuel : Nat) (fl : Bool) (listed : List Bool) : Post :=
  Exit.then (fun a w => (fl = false → C w) ∧ wpAnyB P .any ops Q C (fun j => bars.contains j) fuel fl listed.toArray a w) Q
theorem wpOp_of_WLB {o : Oper} {j : Nat} (hi : l[j]? = some o) {listed' : List Bool} (hl' : listed.set j true = listed') {fl' : Bool} (hfl : (fl || bars.contains j) = fl')
    (h : WL P l.toArray (HContB P l.toArray Q C bars fuel fl' listed') n ds e S [o]) {a : Act} {w : World} (ha : Fits n ds e a) (hw : S w) :
    wpOp P l.toArray Q j (fun a' w' => ((fl || bars.contains j) = false → C w') ∧ wpAnyB P .any l.toArray Q C (fun j => bars.contains j) fuel (fl || bars.contains j) (listed.toArray.setIfInBounds j true) a' w') a w := by
  have h1 := h a w ha hw
  unfold wpOp
  have hi' : l.toArray[j]? = some o := by simpa using hi
  rw [hi']
  unfold wpList at h1
  have hset : listed.toArray.setIfInBounds j true = listed'.toArray := by rw [List.setIfInBounds_toArray, hl']
  rw [hset, hfl]
  have hK : wpList P l.toArray (HContB P l.toArray Q C bars fuel fl' listed') [] = (fun a w => (fl' = false → C w) ∧ wpAnyB P .any l.toArray Q C (fun j => bars.contains j) fuel fl' listed'.toArray a w) := rfl
  rw [hK] at h1
  show if Region.wanted o (yielded l.toArray a.tmps) = true then _ else _
  split
  · rename_i hw'
    rw [if_pos hw'] at h1
    rcases h1 with h1 | ⟨h1, h2⟩
    · left
      unfold Oper.wp at h1 ⊢
      revert h1
      generalize (execOp a.eval o).run P w = r
      intro h1
      cases r with
      | ok nn w' =>
        cases nn <;> simp only [Oper.upon] at h1 ⊢ <;> first
          | exact h1
          | (refine Calls.mono h1 (fun en w'' he => ?_)
             cases en with
             | returned u => exact he
             | panicked ch => exact he
             | outgrown => obtain ⟨a1, w1, hq⟩ := he; exact ⟨a1, w1, hq⟩)
      | halt hh w' => cases hh <;> simp only [Oper.upon] at h1 ⊢ <;> exact h1
    · obtain ⟨a1, w1, hq⟩ := h2
      exact Or.inr ⟨h1, a1, w1, hq⟩
  · rename_i hw'
    rw [if_neg hw'] at h1
    exact h1
theorem WHB.only {o : Oper} (i : Nat) (hi : l[i]? = some o) (hr : Region.ready .any l.toArray listed.toArray = [i]) {listed' : List Bool} (hl' : listed.set i true = listed') {fl' : Bool} (hfl : (fl || bars.contains i) = fl')
    (h : WL P l.toArray (HContB P l.toArray Q C bars fuel fl' listed') n ds e S [o]) : WHB P l.toArray Q n ds e S C bars (fuel + 1) fl listed := by
  intro a w ha hw
  refine ⟨fun h0 => absurd (hr ▸ h0) (by simp), fun j hj => ?_⟩
  rw [hr] at hj
  simp only [List.mem_singleton] at hj
  subst hj
  exact wpOp_of_WLB hi hl' hfl h ha hw
theorem WHB.two {o1 o2 : Oper} (i1 i2 : Nat) (hi1 : l[i1]? = some o1) (hi2 : l[i2]? = some o2) (hr : Region.ready .any l.toArray listed.toArray = [i1, i2]) {listed1 listed2 : List Bool} (hl1 : listed.set i1 true = listed1) (hl2 : listed.set i2 true = listed2) {fl1 fl2 : Bool} (hf1 : (fl || bars.contains i1) = fl1) (hf2 : (fl || bars.contains i2) = fl2)
    (h1 : WL P l.toArray (HContB P l.toArray Q C bars fuel fl1 listed1) n ds e S [o1]) (h2 : WL P l.toArray (HContB P l.toArray Q C bars fuel fl2 listed2) n ds e S [o2]) : WHB P l.toArray Q n ds e S C bars (fuel + 1) fl listed := by
  intro a w ha hw
  refine ⟨fun h0 => absurd (hr ▸ h0) (by simp), fun j hj => ?_⟩
  rw [hr] at hj
  simp only [List.mem_cons, List.not_mem_nil, or_false] at hj
  rcases hj with rfl | rfl
  · exact wpOp_of_WLB hi1 hl1 hf1 h1 ha hw
  · exact wpOp_of_WLB hi2 hl2 hf2 h2 ha hw
theorem WX.contB (hC : fl = false → ∀ w, S w → C w) (h : WHB P ops Q n ds e S C bars fuel fl listed) : WX (HContB P ops Q C bars fuel fl listed) n ds e S .normal :=
  fun a w ha hw => ⟨fun hfl => hC hfl w hw, h a w ha hw⟩
theorem WHB.done (hr : Region.ready .any ops listed.toArray = []) (h : WX Q n ds e S .normal) : WHB P ops (NoPanic Q) n ds e S C bars fuel fl listed := by
  intro a w ha hw
  have hq : NoPanic Q .normal a w := h a w ha hw
  cases fuel with
  | zero => exact ⟨hr, hq⟩
  | succ f => exact ⟨fun _ => hq, by rw [hr]; simp⟩
end
end Go.Hw
