/- Contracts of functions of the program: what each returns and leaves in memory. Printed by gen.py and walk.py. -/
import Derived.Test.YtplebagdajdcnaaDoorHwEq
namespace Go.Proofs.YtplebagdajdcnaaDoor
open Go Go.Hw
set_option linter.unusedSimpArgs false
set_option linter.unusedVariables false
def valueS (c : UInt8) : Int := if 48 ≤ c.toNat ∧ c.toNat ≤ 57 then (c.toNat : Int) - 48 else if 97 ≤ c.toNat ∧ c.toNat ≤ 102 then (c.toNat : Int) - 97 + 10 else -1
def digU (y : UInt8) : UInt8 := if y < 10 then 48 + y else 87 + y
def hexS (D : List UInt8) : List UInt8 := D.flatMap fun (x : UInt8) => [digU (x >>> 4), digU (x &&& 15)]
/-- What a text of digits is read as. -/
def FH (s D : List UInt8) (er : Int) : Prop := (D.length = 32 ∧ hexS D = s ∧ er = 0) ∨ ((∀ D' : List UInt8, D'.length = 32 → hexS D' ≠ s) ∧ D = List.replicate 32 0 ∧ er = 11)
def decB (c d : UInt8) : UInt8 := UInt8.ofNat ((valueS c).toNat * 16 + (valueS d).toNat)
theorem strGet (s : ByteArray) (k : Nat) (h : k < s.data.toList.length) : s[k]? = some (s.data.toList[k]) := by
  have h' : k < s.size := by simpa using h
  rw [getElem?_pos s k h']
  rfl
theorem digits_get (y : UInt8) (h : y.toNat < 16) : (⟨#[48, 49, 50, 51, 52, 53, 54, 55, 56, 57, 97, 98, 99, 100, 101, 102]⟩ : ByteArray)[y.toNat]? = some (digU y) := by
  have key : ∀ k : Fin 16, (⟨#[48, 49, 50, 51, 52, 53, 54, 55, 56, 57, 97, 98, 99, 100, 101, 102]⟩ : ByteArray)[k.val]? = some (digU (UInt8.ofNat k.val)) := by decide +kernel
  have := key ⟨y.toNat, h⟩
  simpa using this
theorem shr4 (x : UInt8) : (x >>> 4).toNat < 16 := by
  have := x.toNat_lt
  rw [UInt8.toNat_shiftRight, Nat.shiftRight_eq_div_pow]
  simp; omega
theorem and15 (x : UInt8) : (x &&& 15).toNat < 16 := by
  rw [UInt8.toNat_and]
  exact Nat.lt_of_le_of_lt Nat.and_le_right (by decide)
theorem div16 (x : UInt8) : x / (16 : UInt8) = x >>> (4 : UInt8) := by
  apply UInt8.toNat_inj.1
  rw [UInt8.toNat_div, UInt8.toNat_shiftRight, Nat.shiftRight_eq_div_pow]; rfl
theorem mod16 (x : UInt8) : x % (16 : UInt8) = x &&& (15 : UInt8) := by
  apply UInt8.toNat_inj.1
  rw [UInt8.toNat_mod, UInt8.toNat_and]
  exact (Nat.and_two_pow_sub_one_eq_mod _ 4).symm
theorem hexS_append (C D : List UInt8) : hexS (C ++ D) = hexS C ++ hexS D := by simp [hexS]
theorem hexS_length (D : List UInt8) : (hexS D).length = 2 * D.length := by
  induction D with
  | nil => rfl
  | cons x D ih => rw [show x :: D = [x] ++ D from rfl, hexS_append, List.length_append, ih]; simp [hexS]; omega
theorem hex_step (D : List UInt8) (i : Nat) (h : i < D.length) : u8s (hexS (D.take i)) ++ [b8 (digU (D[i] >>> 4)), b8 (digU (D[i] &&& 15))] = u8s (hexS (D.take (i + 1))) := by
  rw [List.take_succ_eq_append_getElem h, hexS_append, u8s_append]
  simp [u8s, hexS]
theorem value_of_dig (y : UInt8) (h : y.toNat < 16) : valueS (digU y) = y.toNat := by
  have key : ∀ k : Fin 16, valueS (digU (UInt8.ofNat k.val)) = (k.val : Int) := by decide +kernel
  have := key ⟨y.toNat, h⟩
  simpa using this
theorem value_lt (c : UInt8) : valueS c < 16 := by unfold valueS; have := c.toNat_lt; (repeat' split) <;> omega
theorem dig_of_value (c : UInt8) (h : 0 ≤ valueS c) : digU (UInt8.ofNat (valueS c).toNat) = c := by
  have key : ∀ k : Fin 256, 0 ≤ valueS (UInt8.ofNat k.val) → digU (UInt8.ofNat (valueS (UInt8.ofNat k.val)).toNat) = UInt8.ofNat k.val := by decide +kernel
  have := key ⟨c.toNat, c.toNat_lt⟩
  simp only [UInt8.ofNat_toNat] at this
  exact this h
theorem nib (a b : Nat) (ha : a < 16) (hb : b < 16) : (UInt8.ofNat (a * 16 + b)) >>> 4 = UInt8.ofNat a ∧ (UInt8.ofNat (a * 16 + b)) &&& 15 = UInt8.ofNat b := by
  have key : ∀ a b : Fin 16, (UInt8.ofNat (a.val * 16 + b.val)) >>> 4 = UInt8.ofNat a.val ∧ (UInt8.ofNat (a.val * 16 + b.val)) &&& 15 = UInt8.ofNat b.val := by decide +kernel
  exact key ⟨a, ha⟩ ⟨b, hb⟩
theorem hex_decB (c d : UInt8) (hc : 0 ≤ valueS c) (hd : 0 ≤ valueS d) : hexS [decB c d] = [c, d] := by
  have h1 := value_lt c
  have h2 := value_lt d
  have hn := nib (valueS c).toNat (valueS d).toNat (by omega) (by omega)
  simp only [hexS, decB, List.flatMap_cons, List.flatMap_nil, List.append_nil, hn.1, hn.2]
  rw [dig_of_value c hc, dig_of_value d hd]
theorem dec_bits (c d : UInt8) (hc : 0 ≤ valueS c) (hd : 0 ≤ valueS d) : IntKind.u8.wrap (bits .or .i64 (IntKind.i64.wrap (valueS c * 2 ^ 4)) (valueS d)) = ((decB c d).toNat : Int) := by
  have h1 := value_lt c
  have h2 := value_lt d
  have key : ∀ a b : Fin 16, IntKind.u8.wrap (bits .or .i64 (IntKind.i64.wrap ((a.val : Int) * 2 ^ 4)) (b.val : Int)) = ((UInt8.ofNat (a.val * 16 + b.val)).toNat : Int) := by decide +kernel
  have := key ⟨(valueS c).toNat, by omega⟩ ⟨(valueS d).toNat, by omega⟩
  simp only [Int.toNat_of_nonneg hc, Int.toNat_of_nonneg hd] at this
  exact this
/-- Every digit of a digest's text has a value. -/
theorem hexS_values (D : List UInt8) : ∀ c ∈ hexS D, 0 ≤ valueS c := by
  intro c hc
  simp only [hexS, List.mem_flatMap, List.mem_cons, List.not_mem_nil, or_false] at hc
  obtain ⟨x, _, rfl | rfl⟩ := hc
  · rw [value_of_dig _ (shr4 x)]; omega
  · rw [value_of_dig _ (and15 x)]; omega
theorem hexS_inj : ∀ (C D : List UInt8), hexS C = hexS D → C = D
  | [], [], _ => rfl
  | [], x :: D, h => by simp [hexS] at h
  | x :: C, [], h => by simp [hexS] at h
  | x :: C, y :: D, h => by
    simp only [hexS, List.flatMap_cons, List.cons_append, List.nil_append, List.cons.injEq] at h
    obtain ⟨h1, h2, h3⟩ := h
    have ih := hexS_inj C D h3
    subst ih
    congr 1
    have e1 : (x >>> 4).toNat = (y >>> 4).toNat := by have := congrArg valueS h1; rw [value_of_dig _ (shr4 x), value_of_dig _ (shr4 y)] at this; omega
    have e2 : (x &&& 15).toNat = (y &&& 15).toNat := by have := congrArg valueS h2; rw [value_of_dig _ (and15 x), value_of_dig _ (and15 y)] at this; omega
    rw [← div16, ← div16, UInt8.toNat_div, UInt8.toNat_div] at e1
    rw [← mod16, ← mod16, UInt8.toNat_mod, UInt8.toNat_mod] at e2
    apply UInt8.toNat_inj.1
    have e3 : (16 : UInt8).toNat = 16 := rfl
    rw [e3] at e1 e2
    omega
theorem FH.unique {s D D' : List UInt8} {er er' : Int} (h : FH s D er) (h' : FH s D' er') : D = D' ∧ er = er' := by
  rcases h with ⟨h1, h2, h3⟩ | ⟨h1, h2, h3⟩ <;> rcases h' with ⟨k1, k2, k3⟩ | ⟨k1, k2, k3⟩
  · exact ⟨hexS_inj _ _ (h2.trans k2.symm), h3.trans k3.symm⟩
  · exact absurd h2 (k1 D h1)
  · exact absurd k2 (h1 D' k1)
  · exact ⟨h2.trans k2.symm, h3.trans k3.symm⟩
theorem FH.len {s D : List UInt8} {er : Int} (h : FH s D er) : D.length = 32 := by
  rcases h with ⟨h1, _⟩ | ⟨_, h2, _⟩
  · exact h1
  · subst h2; rfl
theorem FH.wrong_len {s : List UInt8} (h : s.length ≠ 64) : FH s (List.replicate 32 0) 11 :=
  .inr ⟨fun D' h1 h2 => h (by rw [← h2, hexS_length]; omega), rfl, rfl⟩
theorem FH.wrong_digit {s : List UInt8} {k : Nat} (hk : k < s.length) (h : valueS s[k] < 0) : FH s (List.replicate 32 0) 11 :=
  .inr ⟨fun D' _ h2 => by
    have := hexS_values D' s[k] (by rw [h2]; exact List.getElem_mem hk)
    omega, rfl, rfl⟩
/-- One more digit of two. -/
theorem dec_step {s acc : List UInt8} {i : Nat} (h : hexS acc = s.take (2 * i)) (h1 : 2 * i < s.length) (h2 : 2 * i + 1 < s.length) (hc : 0 ≤ valueS s[2 * i]) (hd : 0 ≤ valueS s[2 * i + 1]) :
    hexS (acc ++ [decB s[2 * i] s[2 * i + 1]]) = s.take (2 * (i + 1)) := by
  rw [hexS_append, h, hex_decB _ _ hc hd, show 2 * (i + 1) = 2 * i + 1 + 1 by omega, List.take_succ_eq_append_getElem h2, List.take_succ_eq_append_getElem h1, List.append_assoc]
  rfl
theorem set_next {acc : List UInt8} {i m : Nat} (h : acc.length = i) (hi : i < m) (x : UInt8) : (u8s (acc ++ List.replicate (m - i) 0)).set i (b8 x) = u8s (acc ++ [x] ++ List.replicate (m - (i + 1)) 0) := by
  obtain ⟨k, rfl⟩ : ∃ k, m = i + 1 + k := ⟨m - (i + 1), by omega⟩
  have e1 : i + 1 + k - i = k + 1 := by omega
  have e2 : i + 1 + k - (i + 1) = k := by omega
  rw [e1, e2, List.replicate_succ, u8s_append, u8s_append, u8s_append]
  subst h
  simp [u8s]

def digN (k : Nat) : UInt8 := digU (UInt8.ofNat k)
def upd (d : List UInt8) (i v : Nat) : List UInt8 := d.set (i / 2) (d.getD (i / 2) 0 * 16 + UInt8.ofNat v)
def inn (d : List UInt8) (i : Nat) (c : UInt8) : Nat → List UInt8
  | 0 => d
  | v + 1 => if digN v = c then upd (inn d i c v) i v else inn d i c v
def outS (s : List UInt8) : Nat → List UInt8
  | 0 => List.replicate 32 0
  | i + 1 => inn (outS s i) i (s.getD i 0) 16
theorem upd_length (d : List UInt8) (i v : Nat) : (upd d i v).length = d.length := by simp [upd]
theorem inn_length (d : List UInt8) (i : Nat) (c : UInt8) : ∀ v, (inn d i c v).length = d.length
  | 0 => rfl
  | v + 1 => by
    unfold inn
    split
    · rw [upd_length, inn_length d i c v]
    · exact inn_length d i c v
theorem outS_length (s : List UInt8) : ∀ i, (outS s i).length = 32
  | 0 => rfl
  | i + 1 => by unfold outS; rw [inn_length, outS_length s i]
theorem digN_inj : ∀ j k : Fin 16, digN j.val = digN k.val → j = k := by decide +kernel
theorem inn_dig (d : List UInt8) (i k : Nat) (hk : k < 16) : ∀ v, v ≤ 16 → inn d i (digN k) v = if k < v then upd d i k else d
  | 0, _ => by simp [inn]
  | v + 1, hv => by
    have ih := inn_dig d i k hk v (by omega)
    unfold inn
    by_cases h : v = k
    · subst h
      rw [if_pos rfl, ih, if_neg (Nat.lt_irrefl _), if_pos (Nat.lt_succ_self _)]
    · have hne : digN v ≠ digN k := fun hh => h (by
        have := digN_inj ⟨v, by omega⟩ ⟨k, hk⟩ hh
        simpa using this)
      rw [if_neg hne, ih]
      by_cases h2 : k < v
      · rw [if_pos h2, if_pos (by omega)]
      · rw [if_neg h2, if_neg (by omega)]
theorem hexS_get (D : List UInt8) : ∀ j, (h : j < D.length) → (hexS D).getD (2 * j) 0 = digN (D[j].toNat / 16) ∧ (hexS D).getD (2 * j + 1) 0 = digN (D[j].toNat % 16) := by
  induction D with
  | nil => intro j h; simp at h
  | cons x D ih =>
    intro j h
    cases j with
    | zero =>
      have e1 : x >>> 4 = UInt8.ofNat (x.toNat / 16) := by
        apply UInt8.toNat_inj.1
        have := x.toNat_lt
        rw [UInt8.toNat_shiftRight, Nat.shiftRight_eq_div_pow, UInt8.toNat_ofNat']
        have e : (4 : UInt8).toNat % 8 = 4 := rfl
        rw [e]; omega
      have e2 : x &&& 15 = UInt8.ofNat (x.toNat % 16) := by
        apply UInt8.toNat_inj.1
        have := x.toNat_lt
        rw [← mod16, UInt8.toNat_mod, UInt8.toNat_ofNat']
        have e : (16 : UInt8).toNat = 16 := rfl
        rw [e]; omega
      simp [hexS, digN, e1, e2]
    | succ j =>
      have := ih j (by simpa using h)
      rw [show 2 * (j + 1) = 2 * j + 1 + 1 by omega]
      simpa [hexS] using this
theorem outS_hex (D : List UInt8) (hD : D.length = 32) : ∀ j, j ≤ 32 → outS (hexS D) (2 * j) = D.take j ++ List.replicate (32 - j) 0
  | 0, _ => by simp [outS]
  | j + 1, hj => by
    have ih := outS_hex D hD j (by omega)
    have hjl : j < D.length := by omega
    obtain ⟨g1, g2⟩ := hexS_get D j hjl
    have hb := D[j].toNat_lt
    rw [show 2 * (j + 1) = 2 * j + 1 + 1 by omega]
    unfold outS
    rw [g2]
    unfold outS
    rw [g1, ih, inn_dig _ _ _ (by omega) 16 (Nat.le_refl _), if_pos (by omega), inn_dig _ _ _ (by omega) 16 (Nat.le_refl _), if_pos (by omega)]
    obtain ⟨k, hk⟩ : ∃ k, 32 - j = k + 1 := ⟨32 - j - 1, by omega⟩
    have hk2 : 32 - (j + 1) = k := by omega
    rw [hk, hk2, List.replicate_succ]
    have hl : (D.take j).length = j := by simp; omega
    have d1 : 2 * j / 2 = j := by omega
    have d2 : (2 * j + 1) / 2 = j := by omega
    unfold upd
    rw [d1, d2, List.take_succ_eq_append_getElem hjl]
    have s1 : ∀ (x y : UInt8), (D.take j ++ x :: List.replicate k 0).set j y = D.take j ++ y :: List.replicate k 0 := by
      intro x y
      rw [List.set_append_right _ _ (by omega), hl, Nat.sub_self]; rfl
    have s2 : ∀ (x : UInt8), (D.take j ++ x :: List.replicate k 0).getD j 0 = x := by
      intro x
      simp [List.getD, List.getElem?_append_right, hl]
    rw [s2, s1, s2, s1, List.append_assoc]
    congr 2
    apply UInt8.toNat_inj.1
    simp only [UInt8.toNat_add, UInt8.toNat_mul, UInt8.toNat_ofNat']
    have e0 : (0 : UInt8).toNat = 0 := rfl
    have e16 : (16 : UInt8).toNat = 16 := rfl
    rw [e0, e16]
    omega
theorem FH.ref {s : List UInt8} {i : Nat} (hi : i = s.length ∨ i = 64) (hle : i ≤ s.length ∧ i ≤ 64) : FH s (if hexS (outS s i) = s then outS s i else List.replicate 32 0) (if hexS (outS s i) = s then 0 else 11) := by
  by_cases h : hexS (outS s i) = s
  · rw [if_pos h, if_pos h]
    exact .inl ⟨outS_length _ _, h, rfl⟩
  · rw [if_neg h, if_neg h]
    refine .inr ⟨fun D' h1 h2 => h ?_, rfl, rfl⟩
    have hl : s.length = 64 := by rw [← h2, hexS_length]; omega
    have hi' : i = 2 * 32 := by omega
    subst h2
    rw [hi', outS_hex D' h1 32 (Nat.le_refl _), List.take_of_length_le (by omega)]
    simp

end Go.Proofs.YtplebagdajdcnaaDoor
