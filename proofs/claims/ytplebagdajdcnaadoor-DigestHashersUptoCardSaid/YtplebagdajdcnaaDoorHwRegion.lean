/- Regions that draw their order; splitting on a slot's bool. -/
import Derived.Test.YtplebagdajdcnaaDoorHwMem2
import Derived.OrdersHeld
import Derived.Deep.RegionHeld3
import Derived.StillTail
namespace Go.Hw
set_option linter.unusedVariables false
set_option linter.unusedSimpArgs false
open Go Go.RowKit
variable {w0 ws w : World} {M I : Nat → Prop} {ow : List Item} {i j : Item}
variable {P : Program} {ops : Array Oper} {Q : Post} {n : Nat} {ds : List Deferred} {e : Env} {rest : List Oper} {c : Code}
variable {dst : Option Tmp} {t lt : TypeId} {p : String} {af : Array Edge} {x y z : Operand} {v u : Value} {d : TypeDesc} {S S' C : World → Prop} {k : Nat}

theorem Fits.known {a : Act} (h : Fits n ds e a) {t : Nat} {v : Value} (ht : look e t = some v) : Fits n ds ((t, v) :: e) a :=
  ⟨h.size, h.defers, fun t' u hu => by
    by_cases htt : t = t'
    · subst htt
      rw [look_cons_same] at hu
      rw [← hu]
      exact h.ok _ _ ht |>.trans (by rfl)
    · rw [look_cons_ne _ _ htt] at hu
      exact h.ok _ _ hu⟩

theorem WL.split {t : Nat} {b : Bool} {l : List Oper} (h : look e t = some (.bool b)) (ht : b = true → WL P ops Q n ds ((t, .bool true) :: e) S l) (hf : b = false → WL P ops Q n ds ((t, .bool false) :: e) S l) : WL P ops Q n ds e S l := by
  intro a w ha hw
  cases b with
  | true => exact ht rfl a w (ha.known h) hw
  | false => exact hf rfl a w (ha.known h) hw
theorem WL.known {t : Nat} {b b' : Bool} {l : List Oper} (h : look e t = some (.bool b')) (hb : b' = b) (ht : WL P ops Q n ds ((t, .bool b) :: e) S l) : WL P ops Q n ds e S l := by
  intro a w ha hw
  subst hb
  exact ht a w (ha.known h) hw

/-- Whatever order is picked from here on; the loads are good in every world of C. -/
def WH (P : Program) (ops : Array Oper) (Q : Post) (n : Nat) (ds : List Deferred) (e : Env) (S C : World → Prop) (fuel : Nat) (listed : List Bool) : Prop :=
  ∀ a w, Fits n ds e a → S w → wpAnyH P .any ops Q C fuel listed.toArray a w

theorem WC.drawn {id : Nat} {l : List Oper} (C : World → Prop) (hm : P.follows .mixedOrders = true) (hd : ∀ w w', S w → w'.heap = w.heap → w'.os = w.os → w'.tape = w.tape → w'.output = w.output → S w') {m : Nat} (hl : l.length = m)
    (h : WH P l.toArray (NoPanic Q) n ds e S C m (List.replicate m false)) : WC P Q n ds e S (.region id l.toArray true) := by
  intro a w ha hw
  refine wp_region_noPanic (wp_region_held (S := C) hm ?_)
  have := h a { w with drawn := w.drawn + 1 } ha (hd w _ hw rfl rfl rfl rfl)
  simpa [hl] using this

theorem WC.drawnS {id : Nat} {l : List Oper} (C : World → Prop) (hm : P.follows .mixedOrders = true) {m : Nat} (hl : l.length = m)
    (h : WH P l.toArray (NoPanic Q) n ds e (Sat w0 M I ws ow) C m (List.replicate m false)) : WC P Q n ds e (Sat w0 M I ws ow) (.region id l.toArray true) :=
  WC.drawn C hm (fun _ _ hw h1 h2 h3 h4 => hw.draw h1 h2 h3 h4) hl h

theorem WC.quietS {id : Nat} {l : List Oper} (hm : P.follows .mixedOrders = true) {m : Nat} (hl : l.length = m)
    (h : WH P l.toArray (NoPanic Q) n ds e (Sat w0 M I ws ow) (Sat w0 M I ws ow) m (List.replicate m false)) : WC P Q n ds e (Sat w0 M I ws ow) (.region id l.toArray true) :=
  WC.drawn _ hm (fun _ _ hw h1 h2 h3 h4 => hw.draw h1 h2 h3 h4) hl h

/-- An operation that reads only is taken first. -/
theorem WH.take {l : List Oper} {op : Op} {fuel : Nat} {listed : List Bool} (i : Nat) (hi : l[i]? = some ⟨some k, op, t, p, af, none⟩)
    (hs : Region.noSelect l.toArray = true) (hf : Region.free .any l.toArray listed.toArray i = true) (hr : (Region.ready .any l.toArray listed.toArray).contains i = true)
    (hC : ∀ w, S w → C w) (hv : OV P n ds e C ⟨some k, op, t, p, af, none⟩ v) (hk : Nat.blt k n = true) {listed' : List Bool} (hl' : listed.set i true = listed')
    (h : WH P l.toArray (NoPanic Q) n ds ((k, v) :: e) S C fuel listed') : WH P l.toArray (NoPanic Q) n ds e S C (fuel + 1) listed := by
  intro a w ha hw
  have hi' := hi
  rw [← List.getElem?_toArray] at hi'
  refine wpAnyH_take hi' hs hf hr (fun _ _ _ h => h) (Or.inl ⟨by simp [Region.wanted], fun w' hw' => hv a w' ha hw'⟩) (hC w hw) ?_
  have := h _ w (ha.put hk v) hw
  rw [List.setIfInBounds_toArray, hl']
  exact this

theorem WH.skip {l : List Oper} {op : Op} {fuel : Nat} {listed : List Bool} (i : Nat) {jj : Nat} {want b : Bool} {dj : Nat} (hi : l[i]? = some ⟨some k, op, t, p, af, some (jj, want)⟩)
    (hs : Region.noSelect l.toArray = true) (hf : Region.free .any l.toArray listed.toArray i = true) (hr : (Region.ready .any l.toArray listed.toArray).contains i = true)
    (hC : ∀ w, S w → C w) (hj : (l.toArray[jj]?).bind (·.dst) = some dj) (hb : look e dj = some (.bool b)) (hne : (b == want) = false) (hk : Nat.blt k n = true) {listed' : List Bool} (hl' : listed.set i true = listed')
    (h : WH P l.toArray (NoPanic Q) n ds ((k, undef) :: e) S C fuel listed') : WH P l.toArray (NoPanic Q) n ds e S C (fuel + 1) listed := by
  intro a w ha hw
  have hy : yielded l.toArray a.tmps jj = some b := by simp only [yielded, hj, Option.bind_some, ha.ok _ _ hb]
  have hi' := hi
  rw [← List.getElem?_toArray] at hi'
  refine wpAnyH_take hi' hs hf hr (fun _ _ _ h => h) (Or.inr ⟨?_, rfl⟩) (hC w hw) ?_
  · simp only [Region.wanted, hy]
    simpa using hne
  have := h _ w (ha.put hk undef) hw
  rw [List.setIfInBounds_toArray, hl']
  exact this

theorem WH.takeG {l : List Oper} {op : Op} {fuel : Nat} {listed : List Bool} (i : Nat) {jj : Nat} {want b : Bool} {dj : Nat} (hi : l[i]? = some ⟨some k, op, t, p, af, some (jj, want)⟩)
    (hs : Region.noSelect l.toArray = true) (hf : Region.free .any l.toArray listed.toArray i = true) (hr : (Region.ready .any l.toArray listed.toArray).contains i = true)
    (hC : ∀ w, S w → C w) (hj : (l.toArray[jj]?).bind (·.dst) = some dj) (hb : look e dj = some (.bool b)) (hne : (b == want) = true) (hv : OV P n ds e C ⟨some k, op, t, p, af, none⟩ v) (hk : Nat.blt k n = true) {listed' : List Bool} (hl' : listed.set i true = listed')
    (h : WH P l.toArray (NoPanic Q) n ds ((k, v) :: e) S C fuel listed') : WH P l.toArray (NoPanic Q) n ds e S C (fuel + 1) listed := by
  intro a w ha hw
  have hy : yielded l.toArray a.tmps jj = some b := by simp only [yielded, hj, Option.bind_some, ha.ok _ _ hb]
  have hi' := hi
  rw [← List.getElem?_toArray] at hi'
  refine wpAnyH_take hi' hs hf hr (fun _ _ _ h => h) (Or.inl ⟨?_, fun w' hw' => hv a w' ha hw'⟩) (hC w hw) ?_
  · simp only [Region.wanted, hy]
    simpa using hne
  have := h _ w (ha.put hk v) hw
  rw [List.setIfInBounds_toArray, hl']
  exact this

theorem WH.split {t : Nat} {b : Bool} {fuel : Nat} {listed : List Bool} (h : look e t = some (.bool b)) (ht : b = true → WH P ops Q n ds ((t, .bool true) :: e) S C fuel listed) (hf : b = false → WH P ops Q n ds ((t, .bool false) :: e) S C fuel listed) : WH P ops Q n ds e S C fuel listed := by
  intro a w ha hw
  cases b with
  | true => exact ht rfl a w (ha.known h) hw
  | false => exact hf rfl a w (ha.known h) hw
theorem WH.known {t : Nat} {b b' : Bool} {fuel : Nat} {listed : List Bool} (h : look e t = some (.bool b')) (hb : b' = b) (ht : WH P ops Q n ds ((t, .bool b) :: e) S C fuel listed) : WH P ops Q n ds e S C fuel listed := by
  intro a w ha hw
  subst hb
  exact ht a w (ha.known h) hw

/-- What stands behind one operation of a drawn region. -/
def HCont (P : Program) (ops : Array Oper) (Q : Post) (C : World → Prop) (fuel : Nat) (listed : List Bool) : Post :=
  Exit.then (fun a w => C w ∧ wpAnyH P .any ops Q C fuel listed.toArray a w) Q

/-- One operation that comes up. -/
theorem wpOp_of_WL {l : List Oper} {o : Oper} {fuel : Nat} {listed : List Bool} {j : Nat} (hi : l[j]? = some o) {listed' : List Bool} (hl' : listed.set j true = listed')
    (h : WL P l.toArray (HCont P l.toArray Q C fuel listed') n ds e S [o]) {a : Act} {w : World} (ha : Fits n ds e a) (hw : S w) :
    wpOp P l.toArray Q j (fun a' w' => C w' ∧ wpAnyH P .any l.toArray Q C fuel (listed.toArray.setIfInBounds j true) a' w') a w := by
  have h1 := h a w ha hw
  unfold wpOp
  have hi' : l.toArray[j]? = some o := by simpa using hi
  rw [hi']
  unfold wpList at h1
  have hset : listed.toArray.setIfInBounds j true = listed'.toArray := by rw [List.setIfInBounds_toArray, hl']
  rw [hset]
  have hK : wpList P l.toArray (HCont P l.toArray Q C fuel listed') [] = (fun a w => C w ∧ wpAnyH P .any l.toArray Q C fuel listed'.toArray a w) := rfl
  rw [hK] at h1
  show if Region.wanted o (yielded l.toArray a.tmps) = true then _ else _
  split
  · rename_i hw'
    rw [if_pos hw'] at h1
    rcases h1 with h1 | ⟨h1, h2⟩
    · left
      unfold Oper.wp at h1 ⊢
      revert h1
      generalize (execOp a.eval o).run P w = r
      intro h1
      cases r with
      | ok nn w' =>
        cases nn <;> simp only [Oper.upon] at h1 ⊢ <;> first
          | exact h1
          | (refine Calls.mono h1 (fun en w'' he => ?_)
             cases en with
             | returned u => exact he
             | panicked ch => exact he
             | outgrown => obtain ⟨a1, w1, hq⟩ := he; exact ⟨a1, w1, hq⟩)
      | halt hh w' => cases hh <;> simp only [Oper.upon] at h1 ⊢ <;> exact h1
    · obtain ⟨a1, w1, hq⟩ := h2
      exact Or.inr ⟨h1, a1, w1, hq⟩
  · rename_i hw'
    rw [if_neg hw'] at h1
    exact h1

/-- The one operation that may come up. -/
theorem WH.only {l : List Oper} {o : Oper} {fuel : Nat} {listed : List Bool} (i : Nat) (hi : l[i]? = some o) (hr : Region.ready .any l.toArray listed.toArray = [i]) {listed' : List Bool} (hl' : listed.set i true = listed')
    (h : WL P l.toArray (HCont P l.toArray Q C fuel listed') n ds e S [o]) : WH P l.toArray Q n ds e S C (fuel + 1) listed := by
  intro a w ha hw
  refine wpAnyH_all hr (by simp) (fun j hj => ?_)
  simp only [List.mem_singleton] at hj
  subst hj
  exact wpOp_of_WL hi hl' h ha hw
/-- One of two operations comes up. -/
theorem WH.two {l : List Oper} {o1 o2 : Oper} {fuel : Nat} {listed : List Bool} (i1 i2 : Nat) (hi1 : l[i1]? = some o1) (hi2 : l[i2]? = some o2) (hr : Region.ready .any l.toArray listed.toArray = [i1, i2]) {listed1 listed2 : List Bool} (hl1 : listed.set i1 true = listed1) (hl2 : listed.set i2 true = listed2)
    (h1 : WL P l.toArray (HCont P l.toArray Q C fuel listed1) n ds e S [o1]) (h2 : WL P l.toArray (HCont P l.toArray Q C fuel listed2) n ds e S [o2]) : WH P l.toArray Q n ds e S C (fuel + 1) listed := by
  intro a w ha hw
  refine wpAnyH_all hr (by simp) (fun j hj => ?_)
  simp only [List.mem_cons, List.not_mem_nil, or_false] at hj
  rcases hj with rfl | rfl
  · exact wpOp_of_WL hi1 hl1 h1 ha hw
  · exact wpOp_of_WL hi2 hl2 h2 ha hw
theorem WH.three {l : List Oper} {o1 o2 o3 : Oper} {fuel : Nat} {listed : List Bool} (i1 i2 i3 : Nat) (hi1 : l[i1]? = some o1) (hi2 : l[i2]? = some o2) (hi3 : l[i3]? = some o3) (hr : Region.ready .any l.toArray listed.toArray = [i1, i2, i3]) {listed1 listed2 listed3 : List Bool} (hl1 : listed.set i1 true = listed1) (hl2 : listed.set i2 true = listed2) (hl3 : listed.set i3 true = listed3)
    (h1 : WL P l.toArray (HCont P l.toArray Q C fuel listed1) n ds e S [o1]) (h2 : WL P l.toArray (HCont P l.toArray Q C fuel listed2) n ds e S [o2]) (h3 : WL P l.toArray (HCont P l.toArray Q C fuel listed3) n ds e S [o3]) : WH P l.toArray Q n ds e S C (fuel + 1) listed := by
  intro a w ha hw
  refine wpAnyH_all hr (by simp) (fun j hj => ?_)
  simp only [List.mem_cons, List.not_mem_nil, or_false] at hj
  rcases hj with rfl | rfl | rfl
  · exact wpOp_of_WL hi1 hl1 h1 ha hw
  · exact wpOp_of_WL hi2 hl2 h2 ha hw
  · exact wpOp_of_WL hi3 hl3 h3 ha hw

theorem WX.cont {fuel : Nat} {listed : List Bool} (hC : ∀ w, S w → C w) (h : WH P ops Q n ds e S C fuel listed) : WX (HCont P ops Q C fuel listed) n ds e S .normal :=
  fun a w ha hw => ⟨hC w hw, h a w ha hw⟩

theorem WH.done {fuel : Nat} {listed : List Bool} (hr : Region.ready .any ops listed.toArray = []) (h : WX Q n ds e S .normal) : WH P ops (NoPanic Q) n ds e S C fuel listed :=
  fun a w ha hw => wpAnyH_done hr (show NoPanic Q .normal a w from h a w ha hw) fuel
/-! ### A region whose last operations wait for all others -/
def WS (P : Program) (ops : Array Oper) (n : Nat) (ds : List Deferred) (e : Env) (S : World → Prop) (K : Act → World → Prop) (l : List Oper) : Prop :=
  ∀ a w, Fits n ds e a → S w → wpStill P ops w (fun a' => K a' w) l a
theorem WC.tail {id : Nat} {l : List Oper} (m : Nat) (hm : P.follows .mixedOrders = true) (hB : Region.lexTailB .any l.toArray m = true)
    (h : WS P l.toArray n ds e (Sat w0 M I ws ow) (fun a w => wpList P l.toArray Q (l.drop m) a w) (l.take m)) : WC P Q n ds e (Sat w0 M I ws ow) (.region id l.toArray true) :=
  fun a w ha hw => wp_region_still_tail m hm hB (h a { w with drawn := w.drawn + 1 } ha (hw.draw rfl rfl rfl rfl))
theorem WS.val {K : Act → World → Prop} {op : Op} (hv : OV P n ds e S ⟨some k, op, t, p, af, none⟩ v) (hk : Nat.blt k n = true) (h : WS P ops n ds ((k, v) :: e) S K rest) :
    WS P ops n ds e S K (⟨some k, op, t, p, af, none⟩ :: rest) := by
  intro a w ha hw
  unfold wpStill
  rw [if_pos (wanted_none rfl)]
  unfold Oper.still
  rw [hv a w ha hw]
  exact ⟨rfl, h _ w (ha.put hk v) hw⟩
theorem WS.nil {l : List Oper} (h : WL P ops Q n ds e S l) : WS P ops n ds e S (fun a w => wpList P ops Q l a w) [] := fun a w ha hw => h a w ha hw
end Go.Hw
