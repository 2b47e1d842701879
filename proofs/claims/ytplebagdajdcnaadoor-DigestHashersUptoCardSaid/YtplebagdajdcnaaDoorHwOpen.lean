/- Arguments as they lie in memory: slices of bytes; what a package-level variable holds. -/
import Derived.Test.YtplebagdajdcnaaDoorHwBytes
import Derived.MakeChecks
import Derived.Lay
import Derived.SevenTiedAt
namespace Go.Hw
set_option linter.unusedVariables false
set_option linter.unusedSimpArgs false
open Go Go.RowKit Go.ChangeShapes Go.WideShapes Go.ChangeAt
variable {H : Type} {enc : TypeId × Value → H} {P : Program} {w : World} {base : Nat} {spare : Nat → Bool} {held : Bool} {r : Reach} {b0 : Nat}

theorem trod_bytes {t e : TypeId} {fuel : Nat} {cs : List Value} {x : DataW H × List MemPlace} (ht : P.underlying t = some (.slice e)) (hu : P.underlying e = some (.int .u8)) (h1 : P.cellsOf e = 1) (h : DataW.trod enc P w base spare held fuel t cs = some x) :
    ∃ a m c l, cs = [.slice a m c] ∧ RB w a m l ∧ m ≤ c ∧ c ≤ maxLen ∧ ((x.1 = .nil ∧ m = 0) ∨ ∃ elems rest, x.1 = .slice elems rest ∧ elems.length = m) := by
  rcases DataW.trod_slice ht h with ⟨rfl, rfl⟩ | ⟨a, len, cap, elems, rest, n, rfl, rfl, rfl, hb, hlc, hcm, hlen, hel, _, _⟩
  · exact ⟨none, 0, 0, [], rfl, ⟨rfl, fun _ => rfl, fun b hb => by cases hb⟩, Nat.le_refl _, by decide, .inl ⟨rfl, rfl⟩⟩
  · have key : ∀ i, i < len → ∃ c : UInt8, w.cell? (a.add i) = some (b8 c) := by
      intro i hi
      have h2 := hel i hi
      rw [h1, Nat.mul_one] at h2
      have h3 : i < elems.length := by omega
      rw [List.getElem?_eq_getElem h3] at h2
      obtain ⟨us, hus, h4⟩ := Option.bind_eq_some_iff.1 h2
      obtain ⟨c, rfl, _⟩ := trod_u8 hu h4
      have h5 := (World.cells?_some hus).2.2 0 (by omega)
      exact ⟨c, by simpa [addr_add0] using h5⟩
    refine ⟨some a, len, cap, (List.range len).map fun i => (match w.cell? (a.add i) with | some (Value.int _ k) => UInt8.ofNat k.toNat | _ => 0), rfl, ⟨by simp, fun h => (by cases h), fun b hb j hj => ?_⟩, hlc, hcm, .inr ⟨_, _, rfl, by simpa using hlen⟩⟩
    simp only [Option.some.injEq] at hb
    subst hb
    obtain ⟨c, hc⟩ := key j hj
    simp [List.getD_eq_getElem?_getD, hj, hc]

theorem slice_of_ok {t e : TypeId} {v : Value} {a : Option Addr} {m c : Nat} (ht : P.underlying t = some (.slice e)) (hv : Value.okWide P w r b0 t v) (hc : v.cells.toList = [.slice a m c]) : v = .slice a m c := by
  unfold Value.okWide at hv
  rw [ht] at hv
  simp only [Cell.okWide, ht] at hv
  cases v <;> simp_all [Value.cells, Cell.ok]

theorem open_bytes {t e : TypeId} {v : Value} {d : DataW H} {p : List MemPlace} (ht : P.underlying t = some (.slice e)) (hu : P.underlying e = some (.int .u8)) (h1 : P.cellsOf e = 1)
    (hv : Value.okWide P w r b0 t v) (h : DataW.Trod enc P w base spare held t v d p) : ∃ a m c l, v = .slice a m c ∧ RB w a m l ∧ m ≤ c ∧ c ≤ maxLen ∧ ((d = .nil ∧ m = 0) ∨ ∃ elems rest, d = .slice elems rest ∧ elems.length = m) := by
  obtain ⟨fuel, hf⟩ := h
  obtain ⟨a, m, c, l, hcs, h2⟩ := trod_bytes ht hu h1 hf
  exact ⟨a, m, c, l, slice_of_ok ht hv hcs, h2⟩

theorem sized_bytes {ts : List TypeId} {ds : List (DataW H)} (hs : (DataW.weightsEach P ts ds).all (· ≤ reachBytes) = true) {j : Nat} {t e : TypeId} {d : DataW H} {m : Nat} (ht : ts[j]? = some t) (hd : ds[j]? = some d) (hu : P.underlying t = some (.slice e)) (h1 : P.bytesOf e = 1)
    (h : (d = .nil ∧ m = 0) ∨ ∃ elems rest, d = .slice elems rest ∧ elems.length = m) : m ≤ 140737488351232 := by
  rcases h with ⟨_, rfl⟩ | ⟨elems, rest, rfl, rfl⟩
  · omega
  · have := sized_slice hs ht hd hu
    rw [h1, Nat.mul_one] at this
    simp only [reachBytes] at this
    omega

/-- An array of words that a variable holds. -/
theorem trod_words {t e : TypeId} {fuel n : Nat} {cs : List Value} {l : List UInt32} {p : List MemPlace} (ht : P.underlying t = some (.array n e)) (hu : P.underlying e = some (.int .u32)) (h1 : P.cellsOf e = 1) (hc : P.cellsOf t = n)
    (h : DataW.trod enc P w base spare held fuel t cs = some (.agg (l.map fun c => .lit (.int .u32 (c.toNat : Int))), p)) : cs = w32s l := by
  obtain ⟨xs, m, rfl, hx, hcl, hxl, hel⟩ := DataW.trod_array ht h
  rw [hc] at hcl
  simp only [Prod.mk.injEq, DataW.agg.injEq] at hx
  have hll : l.length = n := by have := congrArg List.length hx.1; simp only [List.length_map] at this; omega
  apply List.ext_getElem?
  intro i
  by_cases hi : i < n
  · have h2 := hel i hi
    rw [h1, Nat.mul_one, List.getElem?_eq_getElem (by omega)] at h2
    obtain ⟨k, hk, hx2, _⟩ := DataW.trod_int hu h2
    have h3 : cs[i]? = some (.int .u32 k) := by
      have h4 := congrArg (fun l : List Value => l[0]?) hk
      simpa [List.getElem?_take, List.getElem?_drop] using h4
    have h5 := congrArg (fun q : List (DataW H) => q[i]?) hx.1
    simp only [List.getElem?_map, List.getElem?_eq_getElem (show i < xs.length by omega), List.getElem?_eq_getElem (show i < l.length by omega), Option.map_some, hx2, Option.some.injEq, DataW.lit.injEq, Lit.int.injEq] at h5
    rw [h3, w32s_getD _ (by omega)]
    simp only [List.getD_eq_getElem?_getD, List.getElem?_eq_getElem (show i < l.length by omega), Option.getD_some, ← h5.2]
  · rw [List.getElem?_eq_none (by omega), List.getElem?_eq_none (by rw [w32s_length]; omega)]
theorem open_u8 {t : TypeId} {v : Value} {d : DataW H} {p : List MemPlace} (hu : P.underlying t = some (.int .u8)) (hv : Value.okWide P w r b0 t v) (h : DataW.Trod enc P w base spare held t v d p) : ∃ c : UInt8, v = b8 c := by
  obtain ⟨fuel, hf⟩ := h
  obtain ⟨c, hc, _⟩ := trod_u8 hu hf
  refine ⟨c, ?_⟩
  unfold Value.okWide at hv
  rw [hu] at hv
  simp only [Cell.okWide, hu] at hv
  cases v <;> simp_all [Value.cells, Cell.ok]
theorem exists_list {α : Type} (d : α) (Q : Nat → α → Prop) : ∀ n : Nat, (∀ i, i < n → ∃ x, Q i x) → ∃ l : List α, l.length = n ∧ ∀ i, i < n → Q i (l.getD i d)
  | 0, _ => ⟨[], rfl, fun i hi => by omega⟩
  | n + 1, h => by
    obtain ⟨l, hl, hq⟩ := exists_list d Q n (fun i hi => h i (by omega))
    obtain ⟨x, hx⟩ := h n (by omega)
    refine ⟨l ++ [x], by simp [hl], fun i hi => ?_⟩
    by_cases hin : i < n
    · have e : (l ++ [x]).getD i d = l.getD i d := by simp only [List.getD_eq_getElem?_getD, List.getElem?_append_left (show i < l.length by omega)]
      rw [e]; exact hq i hin
    · have hin : i = n := by omega
      subst hin
      have e : (l ++ [x]).getD i d = x := by simp only [List.getD_eq_getElem?_getD, List.getElem?_append_right (show l.length ≤ i by omega), hl, Nat.sub_self]; rfl
      rw [e]; exact hx
/-- The datum of a slice of bytes: its length. -/
def DB (d : DataW H) (m : Nat) : Prop := (d = .nil ∧ m = 0) ∨ ∃ elems rest, d = .slice elems rest ∧ elems.length = m
theorem trod_SH {t e : TypeId} {fuel : Nat} {cs : List Value} {x : DataW H × List MemPlace} (ht : P.underlying t = some (.slice e)) (hu : P.underlying e = some (.int .u8)) (h1 : P.cellsOf e = 1) (h : DataW.trod enc P w base spare held fuel t cs = some x) :
    ∃ v l, cs = [v] ∧ SH w v l ∧ DB x.1 l.length := by
  obtain ⟨a, m, c, l, hcs, hrb, hmc, _, hd⟩ := trod_bytes ht hu h1 h
  exact ⟨_, l, hcs, ⟨a, m, c, rfl, hrb, hmc⟩, by rw [hrb.1]; exact hd⟩
theorem trod_bytess {tt t e : TypeId} {fuel : Nat} {cs : List Value} {x : DataW H × List MemPlace} (htt : P.underlying tt = some (.slice t)) (ht : P.underlying t = some (.slice e)) (hu : P.underlying e = some (.int .u8)) (h1 : P.cellsOf e = 1) (h2 : P.cellsOf t = 1) (h : DataW.trod enc P w base spare held fuel tt cs = some x) :
    ∃ a n c ls, cs = [.slice a n c] ∧ RL w a n ls ∧ n ≤ c ∧ c ≤ maxLen ∧ ((x.1 = .nil ∧ ls = []) ∨ ∃ elems rest, x.1 = .slice elems rest ∧ elems.length = ls.length ∧ ∀ i d, elems[i]? = some d → DB d (ls.getD i []).length) := by
  rcases DataW.trod_slice htt h with ⟨rfl, rfl⟩ | ⟨a, len, cap, elems, rest, n, rfl, rfl, rfl, hb, hlc, hcm, hlen, hel, _, _⟩
  · exact ⟨none, 0, 0, [], rfl, ⟨rfl, fun _ => rfl, fun b hb => by cases hb⟩, Nat.le_refl _, by decide, .inl ⟨rfl, rfl⟩⟩
  · have key : ∀ i, i < len → ∃ l : List UInt8, (∃ v, w.cell? (a.add i) = some v ∧ SH w v l) ∧ ∀ d, (elems.map (·.1))[i]? = some d → DB d l.length := by
      intro i hi
      have h3 := hel i hi
      rw [h2, Nat.mul_one] at h3
      have h4 : i < elems.length := by omega
      rw [List.getElem?_eq_getElem h4] at h3
      obtain ⟨us, hus, h5⟩ := Option.bind_eq_some_iff.1 h3
      obtain ⟨v, l, rfl, h6, h7⟩ := trod_SH ht hu h1 h5
      have h8 := (World.cells?_some hus).2.2 0 (by omega)
      refine ⟨l, ⟨v, by simpa [addr_add0] using h8, h6⟩, fun d hd => ?_⟩
      rw [List.getElem?_map, List.getElem?_eq_getElem h4] at hd
      simp only [Option.map_some, Option.some.injEq] at hd
      rw [← hd]; exact h7
    obtain ⟨ls, hll, hq⟩ := exists_list [] _ len key
    refine ⟨some a, len, cap, ls, rfl, ⟨hll, fun h => (by cases h), fun q hq' i hi => ?_⟩, hlc, hcm, .inr ⟨_, _, rfl, by simp [hll, hlen], fun i d hd => ?_⟩⟩
    · simp only [Option.some.injEq] at hq'
      subst hq'
      exact (hq i hi).1
    · have hi : i < len := by have := (List.getElem?_eq_some_iff.1 hd).1; simp at this; omega
      exact (hq i hi).2 d hd
theorem open_bytess {tt t e : TypeId} {v : Value} {d : DataW H} {p : List MemPlace} (htt : P.underlying tt = some (.slice t)) (ht : P.underlying t = some (.slice e)) (hu : P.underlying e = some (.int .u8)) (h1 : P.cellsOf e = 1) (h2 : P.cellsOf t = 1)
    (hv : Value.okWide P w r b0 tt v) (h : DataW.Trod enc P w base spare held tt v d p) : ∃ a n c ls, v = .slice a n c ∧ RL w a n ls ∧ n ≤ c ∧ c ≤ maxLen ∧ ((d = .nil ∧ ls = []) ∨ ∃ elems rest, d = .slice elems rest ∧ elems.length = ls.length ∧ ∀ i d, elems[i]? = some d → DB d (ls.getD i []).length) := by
  obtain ⟨fuel, hf⟩ := h
  obtain ⟨a, n, c, ls, hcs, h3⟩ := trod_bytess htt ht hu h1 h2 hf
  exact ⟨a, n, c, ls, slice_of_ok htt hv hcs, h3⟩
end Go.Hw
