/- The text of numbers at base 36: it tells them. -/
import Derived.Test.YtijplknkpkmblaaGreatDoorTy
import Derived.Test.YtijplknkpkmblaaGreatDoorHxFunc
namespace Go.Proofs.YtijplknkpkmblaaGreatDoor
open Go Go.Hw
set_option linter.unusedSimpArgs false
set_option linter.unusedVariables false
def dig36 (u : Nat) : UInt8 := if u < 10 then UInt8.ofNat (48 + u) else UInt8.ofNat (87 + u)
def fmt36 (u : Nat) : List UInt8 := if u < 36 then [dig36 u] else fmt36 (u / 36) ++ [dig36 (u % 36)]
decreasing_by omega
def itoa36 (n : Int) : List UInt8 := if n < 0 then 45 :: fmt36 n.natAbs else fmt36 n.natAbs
/-- The text for numbers. -/
def keyL (l : List Int) : List UInt8 := l.flatMap fun n => itoa36 n ++ [32]
def keyB (l : List Int) : ByteArray := ⟨(keyL l).toArray⟩
theorem fmt36_lt {u : Nat} (h : u < 36) : fmt36 u = [dig36 u] := by rw [fmt36, if_pos h]
theorem fmt36_ge {u : Nat} (h : 36 ≤ u) : fmt36 u = fmt36 (u / 36) ++ [dig36 (u % 36)] := by rw [fmt36, if_neg (by omega)]
theorem fmt36_len : ∀ (k u : Nat), u < 36 ^ (k + 1) → (fmt36 u).length ≤ k + 1
  | 0, u, h => by rw [fmt36_lt (by omega)]; simp
  | k + 1, u, h => by
    by_cases hu : u < 36
    · rw [fmt36_lt hu]; simp
    · rw [fmt36_ge (by omega)]
      have h2 : u / 36 < 36 ^ (k + 1) := Nat.div_lt_of_lt_mul (by rw [Nat.pow_succ 36 (k + 1), Nat.mul_comm] at h; exact h)
      have := fmt36_len k (u / 36) h2
      simp only [List.length_append, List.length_singleton]; omega
theorem itoa36_len {n : Int} (h : -9223372036854775808 ≤ n ∧ n ≤ 9223372036854775807) : (itoa36 n).length ≤ 14 := by
  have h2 : n.natAbs < 36 ^ (12 + 1) := by have : (36 : Nat) ^ (12 + 1) = 170581728179578208256 := by decide
                                           omega
  have := fmt36_len 12 n.natAbs h2
  unfold itoa36
  split
  · simp only [List.length_cons]; omega
  · omega
/-- The numbers of a row are numbers of the program. -/
def i64s (l : List Int) : Prop := ∀ n ∈ l, -9223372036854775808 ≤ n ∧ n ≤ 9223372036854775807
theorem keyL_len {l : List Int} (h : i64s l) : (keyL l).length ≤ 15 * l.length := by
  induction l with
  | nil => simp [keyL]
  | cons n l ih =>
    have h1 := itoa36_len (h n (.head _))
    have h2 := ih (fun m hm => h m (.tail _ hm))
    simp only [keyL, List.flatMap_cons, List.length_append, List.length_cons, List.length_nil] at h2 ⊢
    omega
theorem keyL_snoc (l : List Int) (n : Int) : keyL (l ++ [n]) = keyL l ++ itoa36 n ++ [32] := by simp [keyL]
/-! ### The text tells the numbers -/
theorem dig36_inj : ∀ a b : Nat, a < 36 → b < 36 → dig36 a = dig36 b → a = b := by
  intro a b ha hb h
  have h1 := congrArg UInt8.toNat h
  unfold dig36 at h1
  split at h1 <;> split at h1 <;> simp only [UInt8.toNat_ofNat'] at h1 <;> omega
theorem dig36_ne {a : Nat} (ha : a < 36) : dig36 a ≠ 32 ∧ dig36 a ≠ 45 := by
  unfold dig36
  split
  · constructor <;> (intro h; have h1 := congrArg UInt8.toNat h; simp only [UInt8.toNat_ofNat'] at h1; have : (32 : UInt8).toNat = 32 := rfl; have : (45 : UInt8).toNat = 45 := rfl; omega)
  · constructor <;> (intro h; have h1 := congrArg UInt8.toNat h; simp only [UInt8.toNat_ofNat'] at h1; have : (32 : UInt8).toNat = 32 := rfl; have : (45 : UInt8).toNat = 45 := rfl; omega)
theorem fmt36_mem (u : Nat) : ∀ c ∈ fmt36 u, ∃ a, a < 36 ∧ c = dig36 a := by
  induction u using Nat.strongRecOn with
  | _ u ih =>
    intro c hc
    by_cases hu : u < 36
    · rw [fmt36_lt hu] at hc
      simp only [List.mem_singleton] at hc
      exact ⟨u, hu, hc⟩
    · rw [fmt36_ge (by omega)] at hc
      rcases List.mem_append.1 hc with hc | hc
      · exact ih (u / 36) (by omega) c hc
      · simp only [List.mem_singleton] at hc
        exact ⟨u % 36, by omega, hc⟩
theorem fmt36_ne (u : Nat) : fmt36 u ≠ [] := by
  by_cases hu : u < 36
  · rw [fmt36_lt hu]; simp
  · rw [fmt36_ge (by omega)]; simp
theorem fmt36_inj : ∀ u v : Nat, fmt36 u = fmt36 v → u = v := by
  intro u
  induction u using Nat.strongRecOn with
  | _ u ih =>
    intro v h
    by_cases hu : u < 36 <;> by_cases hv : v < 36
    · rw [fmt36_lt hu, fmt36_lt hv] at h
      exact dig36_inj u v hu hv (by simpa using h)
    · rw [fmt36_lt hu, fmt36_ge (by omega)] at h
      have := congrArg List.length h
      have h2 := List.length_pos_iff.2 (fmt36_ne (v / 36))
      simp only [List.length_append, List.length_singleton] at this
      omega
    · rw [fmt36_lt hv, fmt36_ge (by omega)] at h
      have := congrArg List.length h
      have h2 := List.length_pos_iff.2 (fmt36_ne (u / 36))
      simp only [List.length_append, List.length_singleton] at this
      omega
    · rw [fmt36_ge (by omega), fmt36_ge (u := v) (by omega)] at h
      have h1 := List.append_inj' h rfl
      have h2 := ih (u / 36) (by omega) (v / 36) h1.1
      have h3 := dig36_inj (u % 36) (v % 36) (by omega) (by omega) (by simpa using h1.2)
      omega
theorem itoa36_inj {m n : Int} (h : itoa36 m = itoa36 n) : m = n := by
  have hd : ∀ u, (fmt36 u).head? ≠ some 45 := by
    intro u hh
    obtain ⟨c, hc⟩ := List.head?_eq_some_iff.1 hh
    obtain ⟨a, ha, he⟩ := fmt36_mem u 45 (by rw [hc]; exact .head _)
    exact (dig36_ne ha).2 he.symm
  unfold itoa36 at h
  split at h <;> split at h
  · have := fmt36_inj _ _ (List.tail_eq_of_cons_eq h); omega
  · exact absurd (by rw [← h]; rfl) (hd n.natAbs)
  · exact absurd (by rw [h]; rfl) (hd m.natAbs)
  · have := fmt36_inj _ _ h; omega
theorem itoa36_sp (n : Int) : ∀ c ∈ itoa36 n, c ≠ 32 := by
  intro c hc
  unfold itoa36 at hc
  have key : ∀ u, ∀ c ∈ fmt36 u, c ≠ 32 := fun u c hc => by
    obtain ⟨a, ha, rfl⟩ := fmt36_mem u c hc
    exact (dig36_ne ha).1
  split at hc
  · rcases List.mem_cons.1 hc with rfl | hc
    · decide
    · exact key _ c hc
  · exact key _ c hc
theorem split_sp : ∀ {a b x y : List UInt8}, (∀ c ∈ a, c ≠ 32) → (∀ c ∈ b, c ≠ 32) → a ++ 32 :: x = b ++ 32 :: y → a = b ∧ x = y
  | [], [], x, y, _, _, h => ⟨rfl, by simpa using h⟩
  | [], d :: b, x, y, _, hb, h => by
    simp only [List.nil_append, List.cons_append, List.cons.injEq] at h
    exact absurd h.1.symm (hb d (.head _))
  | c :: a, [], x, y, ha, _, h => by
    simp only [List.nil_append, List.cons_append, List.cons.injEq] at h
    exact absurd h.1 (ha c (.head _))
  | c :: a, d :: b, x, y, ha, hb, h => by
    simp only [List.cons_append, List.cons.injEq] at h
    obtain ⟨h1, h2⟩ := split_sp (fun c hc => ha c (.tail _ hc)) (fun c hc => hb c (.tail _ hc)) h.2
    exact ⟨by rw [h.1, h1], h2⟩
theorem keyL_cons (n : Int) (l : List Int) : keyL (n :: l) = itoa36 n ++ 32 :: keyL l := by simp [keyL]
theorem keyL_inj : ∀ {l m : List Int}, keyL l = keyL m → l = m
  | [], [], _ => rfl
  | [], n :: m, h => by rw [keyL_cons] at h; simp [keyL] at h
  | n :: l, [], h => by rw [keyL_cons] at h; simp [keyL] at h
  | n :: l, k :: m, h => by
    rw [keyL_cons, keyL_cons] at h
    obtain ⟨h1, h2⟩ := split_sp (itoa36_sp n) (itoa36_sp k) h
    rw [itoa36_inj h1, keyL_inj h2]
theorem take_snoc {l : List Int} {i : Nat} (h : i < l.length) : l.take (i + 1) = l.take i ++ [l.getD i 0] := by
  rw [List.take_add_one, List.getElem?_eq_getElem h, List.getD_eq_getElem?_getD, List.getElem?_eq_getElem h]; rfl
theorem i64s_take {l : List Int} (h : i64s l) (i : Nat) : i64s (l.take i) := fun n hn => h n (List.mem_of_mem_take hn)
theorem getD_mem {l : List Int} {i : Nat} (h : i < l.length) : l.getD i 0 ∈ l := by
  rw [List.getD_eq_getElem?_getD, List.getElem?_eq_getElem h]; exact List.getElem_mem h
theorem i64s_getD {l : List Int} (h : i64s l) {i : Nat} (hi : i < l.length) : -9223372036854775808 ≤ l.getD i 0 ∧ l.getD i 0 ≤ 9223372036854775807 := h _ (getD_mem hi)
/-- A row's numbers in some columns. -/
def pickL (l : List Int) (cs : List Int) : List Int := cs.map fun c => l.getD c.toNat 0
theorem pickL_i64s {l cs : List Int} (h : i64s l) (hc : ∀ k ∈ cs, 0 ≤ k ∧ k < l.length) : i64s (pickL l cs) := by
  intro n hn
  simp only [pickL, List.mem_map] at hn
  obtain ⟨k, hk, rfl⟩ := hn
  have := hc k hk
  exact i64s_getD h (by omega)
theorem pickL_length (l cs : List Int) : (pickL l cs).length = cs.length := by simp [pickL]
theorem keyB_inj {l m : List Int} (h : keyB l = keyB m) : l = m := by
  unfold keyB at h
  simp only [ByteArray.mk.injEq] at h
  exact keyL_inj (by simpa using congrArg Array.toList h)
theorem keyB_eq {l m : List Int} : keyB l = keyB m ↔ l = m := ⟨keyB_inj, fun h => by rw [h]⟩

end Go.Proofs.YtijplknkpkmblaaGreatDoor
