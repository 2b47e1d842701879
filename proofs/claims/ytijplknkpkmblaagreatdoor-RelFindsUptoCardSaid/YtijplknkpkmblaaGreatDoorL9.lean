/- Contracts of functions of the program: what each returns and leaves in memory. Printed by gen.py and walk.py. -/
import Derived.Test.YtijplknkpkmblaaGreatDoorL8
namespace Go.Proofs.YtijplknkpkmblaaGreatDoor
open Go Go.Hw
set_option linter.unusedSimpArgs false
set_option linter.unusedVariables false
/-! ### Rows brought to a width -/
def wideL (l : List Int) (n : Nat) : List Int := l.take n ++ List.replicate (n - l.length) 0
theorem wideL_length (l : List Int) (n : Nat) : (wideL l n).length = n := by simp [wideL]; omega
theorem wideL_i64s {l : List Int} (h : i64s l) (n : Nat) : i64s (wideL l n) := fun k hk => by
  rcases List.mem_append.1 hk with hk | hk
  · exact h k (List.mem_of_mem_take hk)
  · rw [(List.mem_replicate.1 hk).2]; decide
theorem wide_cells (l : List Int) (n : Nat) : (List.replicate n (Value.int .i64 0)).take 0 ++ (ints l).take (min l.length n) ++ (List.replicate n (Value.int .i64 0)).drop (0 + min l.length n) = ints (wideL l n) := by
  rw [List.take_zero, List.nil_append, List.drop_replicate, wideL, ints, ints, List.map_append, ← List.map_take, List.map_replicate]
  congr 1
  · congr 1
    rcases Nat.le_total l.length n with h | h
    · rw [Nat.min_eq_left h, List.take_of_length_le (Nat.le_refl _), List.take_of_length_le h]
    · rw [Nat.min_eq_right h]
  · congr 1
    omega

theorem good_take {row cols key : List Int} {i : Nat} (h : ∀ p ∈ (cols.zip key).take i, good row p) (hc : i < cols.length) (hk : i < key.length) (hg : good row (cols.getD i 0, key.getD i 0)) : ∀ p ∈ (cols.zip key).take (i + 1), good row p := by
  rw [zip_take_snoc hc hk]
  intro p hp
  rcases List.mem_append.1 hp with hp | hp
  · exact h p hp
  · simp only [List.mem_singleton] at hp
    subst hp
    exact hg

end Go.Proofs.YtijplknkpkmblaaGreatDoor
