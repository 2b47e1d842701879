/- Contracts of functions of the program: what each returns and leaves in memory. Printed by gen.py and walk.py. -/
import Derived.Test.YtijplknkpkmblaaGreatDoorL1
import Derived.Test.YtijplknkpkmblaaGreatDoorLay
namespace Go.Proofs.YtijplknkpkmblaaGreatDoor
open Go Go.Hw
set_option linter.unusedSimpArgs false
set_option linter.unusedVariables false
/-! ### What is asked of a relation's columns -/
def good (row : List Int) (p : Int × Int) : Prop := 0 ≤ p.1 ∧ p.1 < row.length ∧ row.getD p.1.toNat 0 = p.2
def fitsL (row cols key : List Int) : Prop := cols.length = key.length ∧ ∀ p ∈ cols.zip key, good row p
def lk (m : List (Int × Int)) (c : Int) : Option Int := (m.find? fun p => p.1 = c).map (·.2)
def kvI (m : List (Int × Int)) : List (Int × Value) := m.map fun p => (p.1, Value.int .i64 p.2)
theorem spot_kvI (m : List (Int × Int)) (c : Int) : ∀ i, (spot (kvI m) c i).map (·.2) = (lk m c).map (Value.int .i64) := by
  induction m with
  | nil => intro i; rfl
  | cons q m ih =>
    intro i
    rw [kvI, List.map_cons]
    unfold spot
    by_cases h : c = q.1
    · rw [if_pos h, lk, List.find?_cons_of_pos (by simp [h])]
      rfl
    · rw [if_neg h, lk, List.find?_cons_of_neg (by simpa using Ne.symm h)]
      exact ih (i + 1)
theorem kvI_got (m : List (Int × Int)) (c : Int) : (got (kvI m) c).getD (.int .i64 0) = .int .i64 ((lk m c).getD 0) := by
  rw [got, spot_kvI]
  cases lk m c <;> rfl
theorem kvI_some (m : List (Int × Int)) (c : Int) : (got (kvI m) c).isSome = (lk m c).isSome := by
  rw [got, spot_kvI]
  cases lk m c <;> rfl
theorem kvI_ups {m : List (Int × Int)} {c v : Int} (h : lk m c = none) : ups (kvI m) c (.int .i64 v) = kvI (m ++ [(c, v)]) := by
  rw [ups_new]
  · simp [kvI]
  · intro q hq
    obtain ⟨p, hp, rfl⟩ := List.mem_map.1 hq
    intro hh
    rw [lk, Option.map_eq_none_iff, List.find?_eq_none] at h
    exact h p hp (by simpa using hh)
theorem lk_mem {m : List (Int × Int)} {c v : Int} (h : lk m c = some v) : (c, v) ∈ m := by
  obtain ⟨p, hp, rfl⟩ := Option.map_eq_some_iff.1 h
  have h1 := List.mem_of_find?_eq_some hp
  have h2 := List.find?_some hp
  simp only [decide_eq_true_eq] at h2
  rw [← h2]
  exact h1
theorem lk_of_mem {m : List (Int × Int)} (hn : (m.map (·.1)).Nodup) {p : Int × Int} (h : p ∈ m) : lk m p.1 = some p.2 := by
  induction m with
  | nil => cases h
  | cons q m ih =>
    rw [List.map_cons, List.nodup_cons] at hn
    rcases List.mem_cons.1 h with rfl | h
    · simp [lk]
    · have hne : ¬ q.1 = p.1 := fun e => hn.1 (by rw [e]; exact List.mem_map.2 ⟨p, h, rfl⟩)
      rw [lk, List.find?_cons_of_neg (by simpa using hne)]
      exact ih hn.2 h
/-- What has been gathered from the first columns. -/
structure QI (width : Nat) (ps : List (Int × Int)) (m : List (Int × Int)) : Prop where
  nd : (m.map (·.1)).Nodup
  ok : ∀ p ∈ m, 0 ≤ p.1 ∧ p.1 < width
  sub : ∀ p ∈ m, p ∈ ps
  fits : ∀ row : List Int, (∀ p ∈ m, good row p) → ∀ p ∈ ps, good row p
theorem QI.nil (width : Nat) : QI width [] [] := ⟨by simp, by simp, by simp, by simp⟩
theorem QI.same {width : Nat} {ps m : List (Int × Int)} {c v : Int} (h : QI width ps m) (hl : lk m c = some v) : QI width (ps ++ [(c, v)]) m :=
  ⟨h.nd, h.ok, fun p hp => List.mem_append_left _ (h.sub p hp), fun row hr p hp => by
    rcases List.mem_append.1 hp with hp | hp
    · exact h.fits row hr p hp
    · simp only [List.mem_singleton] at hp
      subst hp
      exact hr _ (lk_mem hl)⟩
theorem QI.more {width : Nat} {ps m : List (Int × Int)} {c v : Int} (h : QI width ps m) (hl : lk m c = none) (h0 : 0 ≤ c ∧ c < width) : QI width (ps ++ [(c, v)]) (m ++ [(c, v)]) where
  nd := by
    rw [List.map_append, List.nodup_append]
    refine ⟨h.nd, by simp, fun a ha b hb => ?_⟩
    obtain ⟨p, hp, rfl⟩ := List.mem_map.1 ha
    simp only [List.map_cons, List.map_nil, List.mem_singleton] at hb
    subst hb
    rw [lk, Option.map_eq_none_iff, List.find?_eq_none] at hl
    exact fun e => hl p hp (by simpa using e)
  ok p hp := by
    rcases List.mem_append.1 hp with hp | hp
    · exact h.ok p hp
    · simp only [List.mem_singleton] at hp
      subst hp
      exact h0
  sub p hp := by
    rcases List.mem_append.1 hp with hp | hp
    · exact List.mem_append_left _ (h.sub p hp)
    · exact List.mem_append_right _ hp
  fits row hr p hp := by
    rcases List.mem_append.1 hp with hp | hp
    · exact h.fits row (fun q hq => hr q (List.mem_append_left _ hq)) p hp
    · exact hr p (List.mem_append_right _ hp)
theorem QI.clash {width : Nat} {ps m : List (Int × Int)} {c v n : Int} (h : QI width ps m) (hl : lk m c = some n) (hne : n ≠ v) (row : List Int) : ¬ ∀ p ∈ ps ++ [(c, v)], good row p := by
  intro hh
  have h1 := hh (c, n) (List.mem_append_left _ (h.sub _ (lk_mem hl)))
  have h2 := hh (c, v) (List.mem_append_right _ (.head _))
  exact hne (h1.2.2.symm.trans h2.2.2)
def srt (l : List Int) : List Int := l.mergeSort fun x y => decide (x ≤ y)
/-- What question answers. -/
structure QR (width : Nat) (cols key : List Int) (ls ks : List Int) (b : Bool) : Prop where
  no : b = false → ∀ row : List Int, row.length = width → ¬ fitsL row cols key
  len : ks.length = ls.length
  ok : ∀ c ∈ ls, 0 ≤ c ∧ c < width
  nd : ls.Nodup
  le : ls.length ≤ cols.length
  i64 : i64s ls ∧ i64s ks
  yes : b = true → ∀ row : List Int, row.length = width → (pickL row ls = ks ↔ fitsL row cols key)
theorem zip_take_snoc {a b : List Int} {i : Nat} (ha : i < a.length) (hb : i < b.length) : (a.zip b).take (i + 1) = (a.zip b).take i ++ [(a.getD i 0, b.getD i 0)] := by
  have h : i < (a.zip b).length := by simp; omega
  rw [List.take_add_one, List.getElem?_eq_getElem h, List.getElem_zip]
  simp [ha, hb]
theorem QR.bad {width : Nat} {cols key : List Int} (h : ∀ row : List Int, row.length = width → ¬ fitsL row cols key) : QR width cols key [] [] false :=
  ⟨fun _ => h, rfl, by simp, by simp, by simp, ⟨by simp [i64s], by simp [i64s]⟩, fun hh => by cases hh⟩
theorem fits_take {row cols key : List Int} (h : fitsL row cols key) (i : Nat) : ∀ p ∈ (cols.zip key).take i, good row p := fun p hp => h.2 p (List.mem_of_mem_take hp)
theorem QR.good {width : Nat} {cols key : List Int} {m : List (Int × Int)} (hl : cols.length = key.length) (hq : QI width (cols.zip key) m) (hc : i64s cols) (hk : i64s key) (hle : m.length ≤ cols.length) : QR width cols key (srt (m.map (·.1))) ((srt (m.map (·.1))).map fun c => (lk m c).getD 0) true := by
  have hperm : (srt (m.map (·.1))).Perm (m.map (·.1)) := List.mergeSort_perm _ _
  have hmem : ∀ c, c ∈ srt (m.map (·.1)) ↔ ∃ p ∈ m, p.1 = c := fun c => by rw [hperm.mem_iff]; simp
  refine ⟨fun h => (by cases h), by simp, fun c hc => ?_, hperm.nodup_iff.2 hq.nd, by rw [hperm.length_eq]; simpa using hle, ⟨fun n hn => ?_, fun n hn => ?_⟩, fun _ row hrow => ?_⟩
  · obtain ⟨p, hp, rfl⟩ := (hmem c).1 hc
    exact hq.ok p hp
  · obtain ⟨p, hp, rfl⟩ := (hmem n).1 hn
    exact hc _ (List.of_mem_zip (hq.sub p hp)).1
  · obtain ⟨c, hcc, rfl⟩ := List.mem_map.1 hn
    obtain ⟨p, hp, rfl⟩ := (hmem c).1 hcc
    rw [lk_of_mem hq.nd hp]
    exact hk _ (List.of_mem_zip (hq.sub p hp)).2
  · unfold pickL
    constructor
    · intro h
      refine ⟨hl, fun p hp => hq.fits row (fun q hqm => ?_) p hp⟩
      have h1 := hq.ok q hqm
      refine ⟨h1.1, by omega, ?_⟩
      have h2 := List.map_inj_left.1 h q.1 ((hmem q.1).2 ⟨q, hqm, rfl⟩)
      rw [h2, lk_of_mem hq.nd hqm]; rfl
    · intro h
      apply List.map_congr_left
      intro c hcc
      obtain ⟨p, hp, rfl⟩ := (hmem c).1 hcc
      have h1 := h.2 p (hq.sub p hp)
      rw [lk_of_mem hq.nd hp]
      exact h1.2.2

end Go.Proofs.YtijplknkpkmblaaGreatDoor
