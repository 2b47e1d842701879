/- A slice of bytes as it lies in memory; small helps of walks over bytes. -/
import Derived.Test.YtplebagdajdcnaaDoorHwSlice
namespace Go.Hw
set_option linter.unusedVariables false
set_option linter.unusedSimpArgs false
open Go Go.RowKit
/-- A slice of bytes, as it lies in memory. -/
def RB (w : World) (a : Option Addr) (m : Nat) (l : List UInt8) : Prop :=
  l.length = m ∧ (a = none → m = 0) ∧ ∀ b, a = some b → ∀ j, j < m → w.cell? (b.add j) = some (b8 (l.getD j 0))
theorem RB.cell {w : World} {b : Addr} {m : Nat} {l : List UInt8} (h : RB w (some b) m l) {j : Nat} (hj : j < m) : w.cell? (b.add j) = some (b8 (l.getD j 0)) := h.2.2 b rfl j hj
theorem add_block (a : Addr) (n : Nat) : (a.add n).block = a.block := by unfold Addr.add; split <;> rfl
theorem RB.block {w : World} {b : Addr} {m : Nat} {l : List UInt8} (h : RB w (some b) m l) (hm : 0 < m) : b.block < w.heap.size := by
  have := World.block_lt_of_cell? w _ (h.cell (j := 0) hm)
  rwa [add_block] at this
theorem RB.keep {w w' : World} {a : Option Addr} {m : Nat} {l : List UInt8} (h : RB w a m l) {M : Nat → Prop} (k : Fr M w w') (hM : ∀ b, a = some b → 0 < m → ¬ M b.block) : RB w' a m l := by
  refine ⟨h.1, h.2.1, fun b hb j hj => ?_⟩
  subst hb
  rw [World.cell?_of_block (w := w) (by rw [add_block]; exact k.keep _ (h.block (by omega)) (hM b rfl (by omega)))]
  exact h.cell hj
theorem Src.rb {S : World → Prop} {w : World} {a : Option Addr} {m : Nat} {l : List UInt8} (h : Src S a m 1 (u8s l)) (hw : S w) : RB w a m l := by
  refine ⟨by have := h.1; rw [u8s_length] at this; omega, h.2.1, fun b hb j hj => ?_⟩
  have hl : l.length = m := by have := h.1; rw [u8s_length] at this; omega
  exact h.2.2 w hw b hb j _ (u8s_getD l (by omega))
theorem RB.srcS {S : World → Prop} {w : World} {a : Option Addr} {m : Nat} {l : List UInt8} (h : RB w a m l) (hS : ∀ w', S w' → ∀ b, a = some b → 0 < m → w'.heap[b.block]? = w.heap[b.block]?) : Src S a m 1 (u8s l) := by
  refine ⟨by rw [u8s_length, h.1, Nat.mul_one], h.2.1, fun w' hw' b hb j u hj => ?_⟩
  have hj' : j < m := by have := (List.getElem?_eq_some_iff.1 hj).1; rw [u8s_length, h.1] at this; exact this
  rw [u8s_getD l (by rw [h.1]; exact hj')] at hj
  simp only [Option.some.injEq] at hj
  subst hj
  rw [World.cell?_of_block (w := w) (by rw [add_block]; exact hS w' hw' b hb (by omega))]
  subst hb
  exact h.cell hj'
theorem RB.src {w : World} {M : Nat → Prop} {ow : List Item} {a : Option Addr} {m : Nat} {l : List UInt8} (h : RB w a m l) : Src (Sat w M (fun b => b < w.heap.size) w ow) a m 1 (u8s l) :=
  h.srcS (fun w' hw' b hb hm => (hw'.snap b.block (by subst hb; exact h.block hm)).2)
theorem RB.srcO {w : World} {b : Nat} {ow : List Item} {a : Option Addr} {m : Nat} {l : List UInt8} (h : RB w a m l) (hne : ∀ q, a = some q → 0 < m → q.block ≠ b) : Src (Sat w (fun i => i = b) (fun i => i < w.heap.size ∧ i ≠ b) w ow) a m 1 (u8s l) :=
  h.srcS (fun w' hw' q hq hm => (hw'.snap q.block ⟨by subst hq; exact h.block hm, hne q hq hm⟩).2)
/-- A part of a slice. -/
theorem RB.drop {w : World} {a : Option Addr} {m : Nat} {l : List UInt8} (h : RB w a m l) {k : Nat} (hk : k ≤ m) (c : Nat) (hc : m ≤ c) :
    RB w (if c - 0 = k then a else a.map (·.add (k * 1))) (m - k) (l.drop k) := by
  refine ⟨by simp [h.1], fun hn => ?_, fun b hb j hj => ?_⟩
  · split at hn
    · have := h.2.1 hn; omega
    · have := h.2.1 (by simpa using hn); omega
  · by_cases hck : c - 0 = k
    · omega
    · rw [if_neg hck] at hb
      obtain ⟨a', rfl, rfl⟩ := Option.map_eq_some_iff.1 hb
      have e : (a'.add (k * 1)).add j = a'.add (k + j) := by
        unfold Addr.add
        by_cases h1 : k = 0 <;> by_cases h2 : j = 0 <;> simp [h1, h2, Nat.add_assoc]
      rw [e, h.cell (by omega)]
      congr 2
      simp [List.getD]
theorem w32_next {acc : List UInt32} {i m : Nat} (h : acc.length = i) (hi : i < m) (x : UInt32) : (w32s (acc ++ List.replicate (m - i) 0)).set i (w32 x) = w32s (acc ++ [x] ++ List.replicate (m - (i + 1)) 0) := by
  obtain ⟨k, rfl⟩ : ∃ k, m = i + 1 + k := ⟨m - (i + 1), by omega⟩
  have e1 : i + 1 + k - i = k + 1 := by omega
  have e2 : i + 1 + k - (i + 1) = k := by omega
  rw [e1, e2, List.replicate_succ, w32s_append, w32s_append, w32s_append]
  subst h
  simp [w32s]
theorem u8_next {acc : List UInt8} {i m : Nat} (h : acc.length = i) (hi : i < m) (x : UInt8) : (u8s (acc ++ List.replicate (m - i) 0)).set i (b8 x) = u8s (acc ++ [x] ++ List.replicate (m - (i + 1)) 0) := by
  obtain ⟨k, rfl⟩ : ∃ k, m = i + 1 + k := ⟨m - (i + 1), by omega⟩
  have e1 : i + 1 + k - i = k + 1 := by omega
  have e2 : i + 1 + k - (i + 1) = k := by omega
  rw [e1, e2, List.replicate_succ, u8s_append, u8s_append, u8s_append]
  subst h
  simp [u8s]
theorem snapO {w w' : World} {b : Nat} {ow : List Item} {a : Addr} {v : Value} (h : Sat w (fun i => i = b) (fun i => i < w.heap.size ∧ i ≠ b) w ow w') (hne : a.block ≠ b) (hc : w.cell? a = some v) : w'.cell? a = some v :=
  (h.cell ⟨World.block_lt_of_cell? w a hc, hne⟩).trans hc
theorem rb_next {w : World} {a : Option Addr} {m c : Nat} {l : List UInt8} (h : RB w a m l) {k : Nat} (hk : k ≤ m) (hc : m ≤ c) : RB w (if c = k then a else a.map (·.add (k * 1))) (m - k) (l.drop k) := h.drop hk c hc
theorem part_block {a : Option Addr} {c k : Nat} {q : Addr} (h : (if c = k then a else a.map (·.add (k * 1))) = some q) : ∃ q', a = some q' ∧ q'.block = q.block := by
  split at h
  · exact ⟨q, h, rfl⟩
  · obtain ⟨q', rfl, rfl⟩ := Option.map_eq_some_iff.1 h
    exact ⟨q', rfl, (add_block _ _).symm⟩
theorem RB.sat {w w' : World} {ow : List Item} {a : Option Addr} {m : Nat} {l : List UInt8} (h : RB w a m l) (hw : Sat w (fun _ => False) (fun b => b < w.heap.size) w ow w') : RB w' a m l := Src.rb h.src hw
theorem RB.of_own {w0 ws w : World} {M I : Nat → Prop} {ow : List Item} {b : Nat} {l : List UInt8} {T : TypeId} {f : Nat × Nat} (hw : Sat w0 M I ws ow w) (hm : own b (.cells (u8s l).toArray T f) ∈ ow) {m : Nat} (hl : l.length = m) : RB w (some ⟨b, 0, none⟩) m l :=
  Src.rb (own_src hm (by rw [u8s_length, hl])) hw
theorem RB.of_row {w0 ws w : World} {M I : Nat → Prop} {ow : List Item} {l : List UInt8} {T : TypeId} {a : Option Addr} {m c : Nat} (hw : Sat w0 M I ws ow w) (hm : row T 1 a m c (u8s l) ∈ ow) : RB w a m l ∧ m ≤ c := by
  refine ⟨Src.rb (row_src hm hw) hw, ?_⟩
  rcases (row_base hw hm).2 with h | ⟨_, _, h⟩
  · omega
  · exact h
theorem own_ne_snap {w w' : World} {ow : List Item} {b : Nat} {o : Obj} (hw : Sat w (fun _ => False) (fun b => b < w.heap.size) w ow w') (hm : own b o ∈ ow) {q : Nat} (hq : q < w.heap.size) : q ≠ b := by
  have h1 := (hw.lt _ hm b rfl).2.2.resolve_left (fun h => h)
  omega
theorem WL.nilRow {P : Program} {w0 ws : World} {M I : Nat → Prop} {ow : List Item} {ops : Array Oper} {Q : Post} {n : Nat} {ds : List Deferred} {e : Env} {l : List Oper} (T : TypeId) (h : WL P ops Q n ds e (Sat w0 M I ws (row T 1 none 0 0 [] :: ow)) l) : WL P ops Q n ds e (Sat w0 M I ws ow) l := h.weak (fun _ hw => hw.rowNil T 1)
theorem WC.nilRow {P : Program} {w0 ws : World} {M I : Nat → Prop} {ow : List Item} {Q : Post} {n : Nat} {ds : List Deferred} {e : Env} {c : Code} (T : TypeId) (h : WC P Q n ds e (Sat w0 M I ws (row T 1 none 0 0 [] :: ow)) c) : WC P Q n ds e (Sat w0 M I ws ow) c := h.weak (fun _ hw => hw.rowNil T 1)
theorem one8 {x : UInt8} : ∀ u ∈ [b8 x], u.oneCell' = true := by intro u hu; simp only [List.mem_singleton] at hu; subst hu; rfl
theorem u8s_snoc (l : List UInt8) (x : UInt8) : u8s l ++ [b8 x] = u8s (l ++ [x]) := by simp [u8s]
theorem take_snoc (l : List UInt8) {i : Nat} (h : i < l.length) : l.take i ++ [l.getD i 0] = l.take (i + 1) := by
  rw [List.take_add_one, List.getD_eq_getElem?_getD, List.getElem?_eq_getElem h]
  rfl
theorem row_some {w0 ws w : World} {M I : Nat → Prop} {ow : List Item} (h : Sat w0 M I ws ow w) {T : TypeId} {size : Nat} {a : Option Addr} {m cap : Nat} {xs : List Value} (hm : row T size a m cap xs ∈ ow) (h0 : 0 < m) : ∃ q, a = some q := by
  rcases (row_base h hm).2 with h1 | ⟨b, h1, _⟩
  · omega
  · exact ⟨_, h1⟩
theorem WC.know {P : Program} {Q : Post} {n : Nat} {ds : List Deferred} {e : Env} {S : World → Prop} {c : Code} {pr : Prop} (h : ∀ w, S w → pr) (k : pr → WC P Q n ds e S c) : WC P Q n ds e S c := fun a w ha hw => k (h w hw) a w ha hw
theorem WL.know {P : Program} {ops : Array Oper} {Q : Post} {n : Nat} {ds : List Deferred} {e : Env} {S : World → Prop} {l : List Oper} {pr : Prop} (h : ∀ w, S w → pr) (k : pr → WL P ops Q n ds e S l) : WL P ops Q n ds e S l := fun a w ha hw => k (h w hw) a w ha hw
theorem takes_eq {l m : List UInt8} {i : Nat} (hl : i < l.length) (hm : i < m.length) (h : l.take i = m.take i) (he : l.getD i 0 = m.getD i 0) : l.take (i + 1) = m.take (i + 1) := by
  rw [← take_snoc l hl, ← take_snoc m hm, h, he]
theorem RB.take {w : World} {a : Option Addr} {m : Nat} {l : List UInt8} (h : RB w a m l) {k : Nat} (hk : k ≤ m) : RB w a k (l.take k) := by
  refine ⟨by rw [List.length_take, h.1]; omega, fun ha => by have := h.2.1 ha; omega, fun b hb j hj => ?_⟩
  rw [h.2.2 b hb j (by omega)]
  congr 2
  simp only [List.getD_eq_getElem?_getD, List.getElem?_take_of_lt hj]
end Go.Hw
