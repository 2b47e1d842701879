/- Arguments as they lie; callees that turn several items. -/
import Derived.Test.YtgiiifadbnpfkaaGreatDoorHxSlice
import Derived.MakeChecks
import Derived.Lay
import Derived.SevenTiedAt
namespace Go.Hw
set_option linter.unusedVariables false
set_option linter.unusedSimpArgs false
open Go Go.RowKit Go.ChangeShapes Go.WideShapes Go.ChangeAt
variable {H : Type} {enc : TypeId × Value → H} {P : Program} {w : World} {base : Nat} {spare : Nat → Bool} {held : Bool} {r : Reach} {b0 : Nat}

theorem trod_bytes {t e : TypeId} {fuel : Nat} {cs : List Value} {x : DataW H × List MemPlace} (ht : P.underlying t = some (.slice e)) (hu : P.underlying e = some (.int .u8)) (h1 : P.cellsOf e = 1) (h : DataW.trod enc P w base spare held fuel t cs = some x) :
    ∃ a m c l, cs = [.slice a m c] ∧ RB w a m l ∧ m ≤ c ∧ c ≤ maxLen ∧ ((x.1 = .nil ∧ m = 0) ∨ ∃ elems rest, x.1 = .slice elems rest ∧ elems.length = m) := by
  rcases DataW.trod_slice ht h with ⟨rfl, rfl⟩ | ⟨a, len, cap, elems, rest, n, rfl, rfl, rfl, hb, hlc, hcm, hlen, hel, _, _⟩
  · exact ⟨none, 0, 0, [], rfl, ⟨rfl, fun _ => rfl, fun b hb => by cases hb⟩, Nat.le_refl _, by decide, .inl ⟨rfl, rfl⟩⟩
  · have key : ∀ i, i < len → ∃ c : UInt8, w.cell? (a.add i) = some (b8 c) := by
      intro i hi
      have h2 := hel i hi
      rw [h1, Nat.mul_one] at h2
      have h3 : i < elems.length := by omega
      rw [List.getElem?_eq_getElem h3] at h2
      obtain ⟨us, hus, h4⟩ := Option.bind_eq_some_iff.1 h2
      obtain ⟨c, rfl, _⟩ := trod_u8 hu h4
      have h5 := (World.cells?_some hus).2.2 0 (by omega)
      exact ⟨c, by simpa [addr_add0] using h5⟩
    refine ⟨some a, len, cap, (List.range len).map fun i => (match w.cell? (a.add i) with | some (Value.int _ k) => UInt8.ofNat k.toNat | _ => 0), rfl, ⟨by simp, fun h => (by cases h), fun b hb j hj => ?_⟩, hlc, hcm, .inr ⟨_, _, rfl, by simpa using hlen⟩⟩
    simp only [Option.some.injEq] at hb
    subst hb
    obtain ⟨c, hc⟩ := key j hj
    simp [List.getD_eq_getElem?_getD, hj, hc]

theorem slice_of_ok {t e : TypeId} {v : Value} {a : Option Addr} {m c : Nat} (ht : P.underlying t = some (.slice e)) (hv : Value.okWide P w r b0 t v) (hc : v.cells.toList = [.slice a m c]) : v = .slice a m c := by
  unfold Value.okWide at hv
  rw [ht] at hv
  simp only [Cell.okWide, ht] at hv
  cases v <;> simp_all [Value.cells, Cell.ok]

theorem open_bytes {t e : TypeId} {v : Value} {d : DataW H} {p : List MemPlace} (ht : P.underlying t = some (.slice e)) (hu : P.underlying e = some (.int .u8)) (h1 : P.cellsOf e = 1)
    (hv : Value.okWide P w r b0 t v) (h : DataW.Trod enc P w base spare held t v d p) : ∃ a m c l, v = .slice a m c ∧ RB w a m l ∧ m ≤ c ∧ c ≤ maxLen ∧ ((d = .nil ∧ m = 0) ∨ ∃ elems rest, d = .slice elems rest ∧ elems.length = m) := by
  obtain ⟨fuel, hf⟩ := h
  obtain ⟨a, m, c, l, hcs, h2⟩ := trod_bytes ht hu h1 hf
  exact ⟨a, m, c, l, slice_of_ok ht hv hcs, h2⟩

theorem sized_bytes {ts : List TypeId} {ds : List (DataW H)} (hs : (DataW.weightsEach P ts ds).all (· ≤ reachBytes) = true) {j : Nat} {t e : TypeId} {d : DataW H} {m : Nat} (ht : ts[j]? = some t) (hd : ds[j]? = some d) (hu : P.underlying t = some (.slice e)) (h1 : P.bytesOf e = 1)
    (h : (d = .nil ∧ m = 0) ∨ ∃ elems rest, d = .slice elems rest ∧ elems.length = m) : m ≤ 140737488351232 := by
  rcases h with ⟨_, rfl⟩ | ⟨elems, rest, rfl, rfl⟩
  · omega
  · have := sized_slice hs ht hd hu
    rw [h1, Nat.mul_one] at this
    simp only [reachBytes] at this
    omega

/-- An array of words that a variable holds. -/
theorem trod_words {t e : TypeId} {fuel n : Nat} {cs : List Value} {l : List UInt32} {p : List MemPlace} (ht : P.underlying t = some (.array n e)) (hu : P.underlying e = some (.int .u32)) (h1 : P.cellsOf e = 1) (hc : P.cellsOf t = n)
    (h : DataW.trod enc P w base spare held fuel t cs = some (.agg (l.map fun c => .lit (.int .u32 (c.toNat : Int))), p)) : cs = w32s l := by
  obtain ⟨xs, m, rfl, hx, hcl, hxl, hel⟩ := DataW.trod_array ht h
  rw [hc] at hcl
  simp only [Prod.mk.injEq, DataW.agg.injEq] at hx
  have hll : l.length = n := by have := congrArg List.length hx.1; simp only [List.length_map] at this; omega
  apply List.ext_getElem?
  intro i
  by_cases hi : i < n
  · have h2 := hel i hi
    rw [h1, Nat.mul_one, List.getElem?_eq_getElem (by omega)] at h2
    obtain ⟨k, hk, hx2, _⟩ := DataW.trod_int hu h2
    have h3 : cs[i]? = some (.int .u32 k) := by
      have h4 := congrArg (fun l : List Value => l[0]?) hk
      simpa [List.getElem?_take, List.getElem?_drop] using h4
    have h5 := congrArg (fun q : List (DataW H) => q[i]?) hx.1
    simp only [List.getElem?_map, List.getElem?_eq_getElem (show i < xs.length by omega), List.getElem?_eq_getElem (show i < l.length by omega), Option.map_some, hx2, Option.some.injEq, DataW.lit.injEq, Lit.int.injEq] at h5
    rw [h3, w32s_getD _ (by omega)]
    simp only [List.getD_eq_getElem?_getD, List.getElem?_eq_getElem (show i < l.length by omega), Option.getD_some, ← h5.2]
  · rw [List.getElem?_eq_none (by omega), List.getElem?_eq_none (by rw [w32s_length]; omega)]
theorem open_u8 {t : TypeId} {v : Value} {d : DataW H} {p : List MemPlace} (hu : P.underlying t = some (.int .u8)) (hv : Value.okWide P w r b0 t v) (h : DataW.Trod enc P w base spare held t v d p) : ∃ c : UInt8, v = b8 c := by
  obtain ⟨fuel, hf⟩ := h
  obtain ⟨c, hc, _⟩ := trod_u8 hu hf
  refine ⟨c, ?_⟩
  unfold Value.okWide at hv
  rw [hu] at hv
  simp only [Cell.okWide, hu] at hv
  cases v <;> simp_all [Value.cells, Cell.ok]
theorem exists_list {α : Type} (d : α) (Q : Nat → α → Prop) : ∀ n : Nat, (∀ i, i < n → ∃ x, Q i x) → ∃ l : List α, l.length = n ∧ ∀ i, i < n → Q i (l.getD i d)
  | 0, _ => ⟨[], rfl, fun i hi => by omega⟩
  | n + 1, h => by
    obtain ⟨l, hl, hq⟩ := exists_list d Q n (fun i hi => h i (by omega))
    obtain ⟨x, hx⟩ := h n (by omega)
    refine ⟨l ++ [x], by simp [hl], fun i hi => ?_⟩
    by_cases hin : i < n
    · have e : (l ++ [x]).getD i d = l.getD i d := by simp only [List.getD_eq_getElem?_getD, List.getElem?_append_left (show i < l.length by omega)]
      rw [e]; exact hq i hin
    · have hin : i = n := by omega
      subst hin
      have e : (l ++ [x]).getD i d = x := by simp only [List.getD_eq_getElem?_getD, List.getElem?_append_right (show l.length ≤ i by omega), hl, Nat.sub_self]; rfl
      rw [e]; exact hx
/-- The datum of a slice of bytes: its length. -/
def DB (d : DataW H) (m : Nat) : Prop := (d = .nil ∧ m = 0) ∨ ∃ elems rest, d = .slice elems rest ∧ elems.length = m
theorem trod_SH {t e : TypeId} {fuel : Nat} {cs : List Value} {x : DataW H × List MemPlace} (ht : P.underlying t = some (.slice e)) (hu : P.underlying e = some (.int .u8)) (h1 : P.cellsOf e = 1) (h : DataW.trod enc P w base spare held fuel t cs = some x) :
    ∃ v l, cs = [v] ∧ SH w v l ∧ DB x.1 l.length := by
  obtain ⟨a, m, c, l, hcs, hrb, hmc, _, hd⟩ := trod_bytes ht hu h1 h
  exact ⟨_, l, hcs, ⟨a, m, c, rfl, hrb, hmc⟩, by rw [hrb.1]; exact hd⟩
theorem trod_bytess {tt t e : TypeId} {fuel : Nat} {cs : List Value} {x : DataW H × List MemPlace} (htt : P.underlying tt = some (.slice t)) (ht : P.underlying t = some (.slice e)) (hu : P.underlying e = some (.int .u8)) (h1 : P.cellsOf e = 1) (h2 : P.cellsOf t = 1) (h : DataW.trod enc P w base spare held fuel tt cs = some x) :
    ∃ a n c ls, cs = [.slice a n c] ∧ RL w a n ls ∧ n ≤ c ∧ c ≤ maxLen ∧ ((x.1 = .nil ∧ ls = []) ∨ ∃ elems rest, x.1 = .slice elems rest ∧ elems.length = ls.length ∧ ∀ i d, elems[i]? = some d → DB d (ls.getD i []).length) := by
  rcases DataW.trod_slice htt h with ⟨rfl, rfl⟩ | ⟨a, len, cap, elems, rest, n, rfl, rfl, rfl, hb, hlc, hcm, hlen, hel, _, _⟩
  · exact ⟨none, 0, 0, [], rfl, ⟨rfl, fun _ => rfl, fun b hb => by cases hb⟩, Nat.le_refl _, by decide, .inl ⟨rfl, rfl⟩⟩
  · have key : ∀ i, i < len → ∃ l : List UInt8, (∃ v, w.cell? (a.add i) = some v ∧ SH w v l) ∧ ∀ d, (elems.map (·.1))[i]? = some d → DB d l.length := by
      intro i hi
      have h3 := hel i hi
      rw [h2, Nat.mul_one] at h3
      have h4 : i < elems.length := by omega
      rw [List.getElem?_eq_getElem h4] at h3
      obtain ⟨us, hus, h5⟩ := Option.bind_eq_some_iff.1 h3
      obtain ⟨v, l, rfl, h6, h7⟩ := trod_SH ht hu h1 h5
      have h8 := (World.cells?_some hus).2.2 0 (by omega)
      refine ⟨l, ⟨v, by simpa [addr_add0] using h8, h6⟩, fun d hd => ?_⟩
      rw [List.getElem?_map, List.getElem?_eq_getElem h4] at hd
      simp only [Option.map_some, Option.some.injEq] at hd
      rw [← hd]; exact h7
    obtain ⟨ls, hll, hq⟩ := exists_list [] _ len key
    refine ⟨some a, len, cap, ls, rfl, ⟨hll, fun h => (by cases h), fun q hq' i hi => ?_⟩, hlc, hcm, .inr ⟨_, _, rfl, by simp [hll, hlen], fun i d hd => ?_⟩⟩
    · simp only [Option.some.injEq] at hq'
      subst hq'
      exact (hq i hi).1
    · have hi : i < len := by have := (List.getElem?_eq_some_iff.1 hd).1; simp at this; omega
      exact (hq i hi).2 d hd
theorem open_bytess {tt t e : TypeId} {v : Value} {d : DataW H} {p : List MemPlace} (htt : P.underlying tt = some (.slice t)) (ht : P.underlying t = some (.slice e)) (hu : P.underlying e = some (.int .u8)) (h1 : P.cellsOf e = 1) (h2 : P.cellsOf t = 1)
    (hv : Value.okWide P w r b0 tt v) (h : DataW.Trod enc P w base spare held tt v d p) : ∃ a n c ls, v = .slice a n c ∧ RL w a n ls ∧ n ≤ c ∧ c ≤ maxLen ∧ ((d = .nil ∧ ls = []) ∨ ∃ elems rest, d = .slice elems rest ∧ elems.length = ls.length ∧ ∀ i d, elems[i]? = some d → DB d (ls.getD i []).length) := by
  obtain ⟨fuel, hf⟩ := h
  obtain ⟨a, n, c, ls, hcs, h3⟩ := trod_bytess htt ht hu h1 h2 hf
  exact ⟨a, n, c, ls, slice_of_ok htt hv hcs, h3⟩
end Go.Hw

namespace Go.Hw
set_option linter.unusedVariables false
set_option linter.unusedSimpArgs false
open Go Go.RowKit
variable {w0 ws w w' : World} {M I : Nat → Prop} {A A' ow : List Item} {i j : Item}

/-- The blocks of a list of items. -/
def DD (A : List Item) (b : Nat) : Prop := ∃ i ∈ A, i.D b
structure Holds (A : List Item) (w : World) : Prop where
  φ : ∀ i ∈ A, i.φ w
  lt : ∀ i ∈ A, ∀ b, i.D b → b < w.heap.size
  disj : A.Pairwise Disj
structure Turns (A A' : List Item) (w w' : World) : Prop where
  fr : Fr (DD A) w w'
  φ : ∀ i ∈ A', i.φ w'
  D : ∀ i ∈ A', ∀ b, i.D b → b < w'.heap.size ∧ (DD A b ∨ w.heap.size ≤ b)
  disj : A'.Pairwise Disj

theorem Sat.holds (h : Sat w0 M I ws (A ++ ow) w) : Holds A w :=
  ⟨fun i hi => h.it i (List.mem_append_left _ hi), fun i hi b hb => (h.lt i (List.mem_append_left _ hi) b hb).1, (List.pairwise_append.1 h.disj).1⟩
theorem Sat.turns (h : Sat w0 M I ws (A ++ ow) w) (t : Turns A A' w w') : Sat w0 M I ws (A' ++ ow) w' := by
  have hp := List.pairwise_append.1 h.disj
  have hsep : ∀ b, DD A b → ∀ j ∈ ow, ¬ j.D b := fun b ⟨i, hi, hb⟩ j hj => hp.2.2 i hi j hj b hb
  have hltA : ∀ b, DD A b → b < w.heap.size ∧ ¬ I b ∧ (M b ∨ w0.heap.size ≤ b) := fun b ⟨i, hi, hb⟩ => h.lt i (List.mem_append_left _ hi) b hb
  refine ⟨h.fr.trans_new t.fr (fun b hb => (hltA b hb).2.2), fun b hb => ?_, fun j hj => ?_, fun j hj b hb => ?_, List.pairwise_append.2 ⟨t.disj, hp.2.1, fun i hi j hj b hb hjb => ?_⟩⟩
  · exact ⟨Nat.lt_of_lt_of_le (h.snap b hb).1 t.fr.size, (t.fr.keep b (h.snap b hb).1 (fun hd => (hltA b hd).2.1 hb)).trans (h.snap b hb).2⟩
  · rcases List.mem_append.1 hj with hj | hj
    · exact t.φ j hj
    · exact j.loc w w' (fun b hb => t.fr.keep b (h.lt j (List.mem_append_right _ hj) b hb).1 (fun hd => hsep b hd j hj hb)) (h.it j (List.mem_append_right _ hj))
  · rcases List.mem_append.1 hj with hj | hj
    · obtain ⟨h1, h2⟩ := t.D j hj b hb
      rcases h2 with h2 | h2
      · exact ⟨h1, (hltA b h2).2⟩
      · exact ⟨h1, fun hI => by have := (h.snap b hI).1; omega, .inr (Nat.le_trans h.fr.size h2)⟩
    · have := h.lt j (List.mem_append_right _ hj) b hb
      exact ⟨Nat.lt_of_lt_of_le this.1 t.fr.size, this.2⟩
  · rcases (t.D i hi b hb).2 with h2 | h2
    · exact hsep b h2 j hj hjb
    · have := (h.lt j (List.mem_append_right _ hj) b hjb).1
      omega
/-- At the head of a call that may turn what A says. -/
theorem Sat.startA (h : Holds A w) : Sat w (DD A) (fun b => b < w.heap.size ∧ ¬ DD A b) w A w :=
  ⟨Fr.refl _ _, fun b hb => ⟨hb.1, rfl⟩, h.φ, fun i hi b hb => ⟨h.lt i hi b hb, fun hn => hn.2 ⟨i, hi, hb⟩, .inl ⟨i, hi, hb⟩⟩, h.disj⟩
/-- At its end. -/
theorem Sat.turned {I : Nat → Prop} {ws : World} (h : Sat w (DD A) I ws A' w') : Turns A A' w w' :=
  ⟨h.fr, h.it, fun i hi b hb => ⟨(h.lt i hi b hb).1, (h.lt i hi b hb).2.2⟩, h.disj⟩
theorem Turns.fr0 (t : Turns [] A' w w') : Fr0 w w' := t.fr.mono (fun b ⟨i, hi, _⟩ => by cases hi)
theorem Turns.new1 {i : Item} (h : Fr0 w w') (hn : New w w' i) : Turns [] [i] w w' :=
  ⟨h.mono (fun _ f => f.elim), fun j hj => by simp only [List.mem_singleton] at hj; subst hj; exact hn.1,
    fun j hj b hb => by simp only [List.mem_singleton] at hj; subst hj; exact ⟨(hn.2 b hb).2, .inr (hn.2 b hb).1⟩, List.pairwise_singleton _ _⟩
theorem Turns.own1 {b : Nat} {o o' : Obj} (hlt : b < w.heap.size) (h : Fr (fun i => i = b) w w') (hn : w'.heap[b]? = Option.some o') : Turns [own b o] [own b o'] w w' :=
  ⟨h.mono (fun i hi => ⟨_, List.mem_singleton.2 rfl, hi⟩), fun j hj => by simp only [List.mem_singleton] at hj; subst hj; exact hn,
    fun j hj q hq => by
      simp only [List.mem_singleton] at hj
      subst hj
      simp only [own] at hq
      subst hq
      exact ⟨Nat.lt_of_lt_of_le hlt h.size, .inl ⟨_, List.mem_singleton.2 rfl, rfl⟩⟩, List.pairwise_singleton _ _⟩

section rules
variable {P : Program} {ops : Array Oper} {Q : Post} {n : Nat} {ds : DS} {e : Env} {rest : List Oper} {t lt : TypeId} {p : String} {af : Array Edge} {k : Nat}
theorem WL.callT {ι : Type} {vv : ι → Value} {pp : ι → Prop} {AA : ι → List Item} {f : FuncId} {xs : List Operand} {vs : List Value} {ats : Array TypeId} (hf : bodied P f = true) (hv : evs e xs = Option.some vs) (hk : Nat.blt k n = true)
    (hc : ∀ w, Sat w0 M I ws (A ++ ow) w → Calls P f vs.toArray w fun en w' => ∃ x, en = .returned (vv x) ∧ pp x ∧ Turns A (AA x) w w')
    (h : ∀ x, pp x → WL P ops Q n ds ((k, vv x) :: e) (Sat w0 M I ws (AA x ++ ow)) rest) : WL P ops Q n ds e (Sat w0 M I ws (A ++ ow)) (⟨Option.some k, .call ⟨.value (.func f), xs.toArray, ats⟩, t, p, af, none⟩ :: rest) :=
  WL.call (ι := ι) (vv := vv) (SS := fun x w => pp x ∧ Sat w0 M I ws (AA x ++ ow) w) hf hv hk
    (fun w hw => (hc w hw).mono (fun _ _ ⟨x, h1, h2, h3⟩ => ⟨x, h1, h2, hw.turns h3⟩)) (fun x => WL.pure (h x))
theorem enterA {w : World} {f : FuncId} {fn : Func} {c : Code} {args : List Value} {R : Ending → World → Prop} (hA : Holds A w) (hf : P.funcs[f]? = Option.some fn) (hb : fn.body = Option.some c) {N : Nat} (hn : fn.ntmps = N) (hN : Nat.ble args.length N = true) {e : Env} (he : argEnv 0 args = e)
    (h : WC P (bodyPostM Fence.wide 0 P fn R) N {} e (Sat w (DD A) (fun b => b < w.heap.size ∧ ¬ DD A b) w A) c) : Calls P f args.toArray w R := by
  refine enter hf hb hn hN ?_
  rw [argEnv_eq, he]
  intro a w' ha hw
  subst hw
  exact h a _ ha (Sat.startA hA)
end rules

/-- What lies below B stays, where the items lie at B or above it. -/
theorem snapB {B : Nat} (hAB : ∀ b, DD A b → B ≤ b) (h : Sat w (DD A) (fun b => b < w.heap.size ∧ ¬ DD A b) w ow w') {a : Addr} {v : Value} (hlt : a.block < B) (hc : w.cell? a = Option.some v) : w'.cell? a = Option.some v :=
  (h.cell ⟨World.block_lt_of_cell? w a hc, fun hd => by have := hAB _ hd; omega⟩).trans hc
theorem RB.satB {B : Nat} (hAB : ∀ b, DD A b → B ≤ b) (h : Sat w (DD A) (fun b => b < w.heap.size ∧ ¬ DD A b) w ow w') {a : Option Addr} {m : Nat} {l : List UInt8} (hlt : ∀ q, a = Option.some q → 0 < m → q.block < B) (hr : RB w a m l) : RB w' a m l := by
  refine ⟨hr.1, hr.2.1, fun b hb j hj => ?_⟩
  subst hb
  exact snapB hAB h (by rw [add_block]; exact hlt b rfl (by omega)) (hr.cell hj)
theorem Src.of_rb {a : Option Addr} {m : Nat} {l : List UInt8} {S : World → Prop} (h1 : l.length = m) (h2 : a = none → m = 0) (h : ∀ w, S w → RB w a m l) : Src S a m 1 (u8s l) := by
  refine ⟨by rw [u8s_length, h1, Nat.mul_one], h2, fun w hw b hb j u hj => ?_⟩
  have hj' : j < m := by have := (List.getElem?_eq_some_iff.1 hj).1; rw [u8s_length, h1] at this; exact this
  have hr := h w hw
  subst hb
  rw [hr.cell hj']
  rw [u8s_getD l (by omega)] at hj
  exact hj
theorem DD_nil (b : Nat) : ¬ DD [] b := fun ⟨_, h, _⟩ => by cases h
theorem DD_cons {b : Nat} : DD (i :: A) b ↔ i.D b ∨ DD A b := by
  constructor
  · rintro ⟨j, hj, hb⟩
    rcases List.mem_cons.1 hj with rfl | hj
    · exact .inl hb
    · exact .inr ⟨j, hj, hb⟩
  · rintro (h | ⟨j, hj, hb⟩)
    · exact ⟨i, .head _, h⟩
    · exact ⟨j, .tail _ hj, hb⟩
theorem DD_append {b : Nat} {B : List Item} : DD (A ++ B) b ↔ DD A b ∨ DD B b := by
  constructor
  · rintro ⟨j, hj, hb⟩
    rcases List.mem_append.1 hj with hj | hj
    · exact .inl ⟨j, hj, hb⟩
    · exact .inr ⟨j, hj, hb⟩
  · rintro (⟨j, hj, hb⟩ | ⟨j, hj, hb⟩)
    · exact ⟨j, List.mem_append_left _ hj, hb⟩
    · exact ⟨j, List.mem_append_right _ hj, hb⟩
/-- All items of a call that began at w0 with nothing to turn are new. -/
theorem Sat.newBlocks {w0 : World} (h : Sat w0 (fun _ => False) I ws ow w) : ∀ b, DD ow b → w0.heap.size ≤ b := fun b ⟨i, hi, hb⟩ => (h.lt i hi b hb).2.2.resolve_left (fun f => f)

theorem WC.nilRow2 {P : Program} {Q : Post} {n : Nat} {ds : DS} {e : Env} {c : Code} (T : TypeId) {size : Nat} (h : WC P Q n ds e (Sat w0 M I ws (row T size none 0 0 [] :: ow)) c) : WC P Q n ds e (Sat w0 M I ws ow) c := h.weak (fun _ hw => hw.rowNil T size)
/-! ### Elements of several cells -/
theorem own_srcN {b : Nat} {cs : List Value} {T : TypeId} {f : Nat × Nat} {m size : Nat} (hm : own b (.cells cs.toArray T f) ∈ ow) (hl : cs.length = m * size) : Src (Sat w0 M I ws ow) (Option.some ⟨b, 0, none⟩) m size cs := by
  refine ⟨hl, fun h => (by cases h), fun w hw b' hb j u hj => ?_⟩
  simp only [Option.some.injEq] at hb
  subst hb
  rw [add_off, Nat.zero_add]
  exact own_cells hw hm j u hj
/-- A literal of one element of several cells. -/
theorem WL.buildSliceA {P : Program} {ops : Array Oper} {Q : Post} {n : Nat} {ds : DS} {e : Env} {rest : List Oper} {t lt T : TypeId} {p : String} {af : Array Edge} {k s : Nat} {q1 : Operand} {cs zc : List Value} (hu : P.underlying lt = Option.some (.slice T)) (hz : P.sz T = Option.some s) (hzr : P.zr T = Option.some zc.toArray) (hx : ev e q1 = Option.some (.agg cs.toArray)) (hs : cs.length = s) (hs2 : s ≤ 16777216) (h0 : 0 < s) (hk : Nat.blt k n = true)
    (h : ∀ b, WL P ops Q n ds ((k, .slice (Option.some ⟨b, 0, none⟩) 1 1) :: e) (Sat w0 M I ws (own b (.cells cs.toArray T (0, 0)) :: ow)) rest) :
    WL P ops Q n ds e (Sat w0 M I ws ow) (⟨Option.some k, .buildSlice lt 1 #[(0, q1)], t, p, af, none⟩ :: rest) := by
  refine WL.runX (ι := Nat) (vv := fun b => .slice (Option.some ⟨b, 0, none⟩) 1 1) (SS := fun b => Sat w0 M I ws (own b (.cells cs.toArray T (0, 0)) :: ow)) ?_ hk h
  intro a w ha hw
  obtain ⟨zv, hzv, hc⟩ := run_zero hzr w
  refine ⟨w.heap.size, w.alloc (.cells cs.toArray T), ?_, hw.fresh (Fr.alloc _ _) (own_alloc _ _) (fun b hb => by simp only [own] at hb; subst hb; simp)⟩
  have hlen : ∀ (z : List Value), z.length = s → Instr.fill (fun i => Option.some (i * s, s)) z.toArray [(0, .agg cs.toArray)] = Option.some cs.toArray := by
    intro z hzl
    refine fill_cons (us := cs) rfl (by rw [hs, Nat.zero_mul]) (by omega) ?_
    rw [List.take_zero, List.drop_eq_nil_of_le (by omega)]
    simp [Instr.fill]
  have hz2 : ∀ (f : Nat → Value), Instr.fill (fun i => Option.some (i * s, s)) ((Array.range (1 * s)).map f) [(0, .agg cs.toArray)] = Option.some cs.toArray := by
    intro f
    have h2 := hlen ((Array.range (1 * s)).map f).toList (by simp)
    rwa [Array.toArray_toList] at h2
  have hs0 : ¬ (1 * s = 0) := by omega
  have hs3 : ¬ (1 * s > 2 ^ 24) := by omega
  simp only [execOp, Instr.buildSlice, Sem.run_bind, run_underlying hu, Result.andThen_ok, run_sizeOf hz, if_neg hs3, if_neg hs0, hzv, Sem.run_pure]
  have e1 : List.map (fun x : Nat × Operand => match x with | (i, x) => (i, a.eval x)) [(0, q1)] = [(0, .agg cs.toArray)] := by simp [ha.eval hx]
  simp only [List.map_toArray, e1, hz2]
  simp [newRow, newObj, Sem.run]

/-! ### Rows -/
section rows
variable {P : Program} {ops : Array Oper} {Q : Post} {n : Nat} {ds : DS} {e : Env} {rest : List Oper} {t lt : TypeId} {p : String} {af : Array Edge} {k : Nat} {x y : Operand} {v : Value}
/-- A store into an element of a row. -/
theorem WL.storeRow {T size m cap o b : Nat} {a : Option Addr} {xs : List Value} (hx : ev e x = Option.some (.pointer (Option.some ⟨b, o, none⟩))) (ha : a = Option.some ⟨b, 0, none⟩) (hy : ev e y = Option.some v) (h1 : v.oneCell' = true) (hz : P.sz lt = Option.some 1) (ho : o < xs.length)
    (h : WL P ops Q n ds e (Sat w0 M I ws (row T size a m cap (xs.set o v) :: ow)) rest) :
    WL P ops Q n ds e (Sat w0 M I ws (row T size a m cap xs :: ow)) (⟨none, .store lt x y, t, p, af, none⟩ :: rest) := by
  subst ha
  refine WL.runS (S' := Sat w0 M I ws (row T size (Option.some ⟨b, 0, none⟩) m cap (xs.set o v) :: ow)) (fun ac w ha hw => ?_) h
  have hown : w.ownsRow 0 T size (.slice (Option.some ⟨b, 0, none⟩) m cap) m xs := hw.it _ (.head _)
  rcases hown.2 with ⟨hv, _⟩ | ⟨g, c, cur, hv, hg0, hg, hmc, hcm, hcs, htake⟩
  · cases hv
  · simp only [Value.slice.injEq, Option.some.injEq, Addr.mk.injEq, and_true] at hv
    obtain ⟨rfl, _, rfl⟩ := hv
    have hlen := hown.1
    have hle : m * size ≤ cur.size := by rw [hcs]; exact Nat.mul_le_mul_right _ hmc
    have ho' : o < cur.size := by omega
    have hcell : w.cell? ⟨b, o, none⟩ = Option.some cur[o] := by simp [World.cell?, hg, ho']
    have hfro : w.frozen? ⟨b, o, none⟩ = false := by simp [World.frozen?, hg]
    have hst : (store (⟨b, o, none⟩ : Addr) v).run P w = .ok () (w.setRow b (cur.setIfInBounds o v)) := by
      rw [run_store P w _ v _ h1, hcell]
      simp [hfro, setCell_eq_setRow w b o cur T (0, 0) v hg]
    refine ⟨w.setRow b (cur.setIfInBounds o v), ?_, ?_⟩
    · simp only [execOp, Instr.storeAt, Instr.sureAddr, storeVar, ha.eval hx, ha.eval hy, one_cells h1]
      simp [run_sizeOf hz, storeCells, addr_add0, hst]
    · refine hw.turn ((Fr.setRow _ _ _).mono (fun i hi => ⟨_, rfl, by subst hi; rfl⟩)) ⟨by simpa using hlen, .inr ⟨b, cap, cur.setIfInBounds o v, rfl, hg0, setRow_heap w b cur _ T (0, 0) hg, hmc, hcm, by simpa using hcs, ?_⟩⟩ (fun q hq => .inl hq)
      simp only [Array.toList_setIfInBounds]
      rw [List.take_set, htake]
end rows
end Go.Hw
