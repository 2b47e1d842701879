/- Contracts of functions of the program: what each returns and leaves in memory. Printed by gen.py and walk.py. -/
import Derived.Test.YtijplknkpkmblaaDoorM1
namespace Go.Proofs.YtijplknkpkmblaaDoor
open Go Go.Hw
set_option linter.unusedSimpArgs false
set_option linter.unusedVariables false
/-! ### What the laws lean on -/
theorem wide_col (l : List Int) (a : Option Addr) (m c : Nat) (wd : Nat) (hm : m ≤ 1099511627776) (hwd : wd ≤ 1099511627776) (w : World) (hr : RI w a m l) :
    Calls Tryd.prog 16 #[.slice a m c, .int .i64 (wd : Int)] w fun e w' => ∃ y : Col, e = .returned (encC y) ∧ y.l = wideL l wd ∧ Fr0 w w' ∧ New w w' (row 3 1 y.a y.l.length y.c (ints y.l)) :=
  (wide_calls l a m c wd hm hwd w hr).mono (fun e w' ⟨a', c', h1, h2, h3⟩ => ⟨⟨a', c', wideL l wd⟩, by rw [h1]; show _ = Ending.returned (Value.slice a' (wideL l wd).length c'); rw [wideL_length], rfl, h2, by
    show New w w' (row 3 1 a' (wideL l wd).length c' (ints (wideL l wd)))
    rw [wideL_length]
    exact h3⟩)
theorem RI.lt {w : World} {a : Option Addr} {m : Nat} {l : List Int} (h : RI w a m l) {b : Addr} (hb : a = Option.some b) (hm : 0 < m) : b.block < w.heap.size := by
  have hl : 0 < l.length := by rw [h.1]; exact hm
  have h1 := h.2.2 b hb 0 _ (List.getElem?_eq_getElem hl)
  have h2 := World.block_lt_of_cell? _ _ h1
  rwa [add_block] at h2
/-- Find's rows are those of Rows that fit. -/
theorem sel_filter (L : List (List Int × Nat)) (parts : Int) (cols key : List Int) : selR L parts cols key = (selR L parts [] []).filter fun r => decide (fitsL r cols key) := by
  symm
  refine sortR_eq ?_ ((sortR_sorted _).filter _)
  refine ((sortR_perm _).filter _).trans (List.Perm.of_eq ?_)
  rw [List.filter_map, List.filter_filter]
  refine congrArg (List.map _) (List.filter_congr ?_)
  intro p _
  have h0 : fitsL p.1 [] [] := ⟨rfl, by simp⟩
  simp only [Function.comp_apply, h0, decide_true, Bool.and_true]
  rw [Bool.and_comm]
theorem sel_all_len {g : RelG} {parts : Int} {ys : List Col} (h : ys.map Col.l = selR (rp g) parts [] []) : ys.length ≤ g.es.length := by
  have h1 := congrArg List.length h
  rw [List.length_map] at h1
  have h2 := selR_len (rp g) parts [] []
  rw [rp_len] at h2
  omega
/-- As far as the rows have been gone through. -/
def Gone (AL FL : List (List Int)) (f : List Int → Bool) (k n : Nat) : Prop := n ≤ AL.length ∧ (AL.take n).filter f = FL.take k
theorem Gone.start (AL FL : List (List Int)) (f : List Int → Bool) : Gone AL FL f 0 0 := ⟨by omega, by simp⟩
theorem gone_pre {AL FL : List (List Int)} {f : List Int → Bool} (hF : FL = AL.filter f) {n : Nat} {x : List Int} (hx : AL[n]? = some x) (hf : f x = true) : FL = (AL.take n).filter f ++ x :: (AL.drop (n + 1)).filter f := by
  obtain ⟨hn, rfl⟩ := List.getElem?_eq_some_iff.1 hx
  rw [hF]
  conv => lhs; rw [← List.take_append_drop n AL, List.drop_eq_getElem_cons hn, List.filter_append, List.filter_cons_of_pos hf]
theorem Gone.len {AL FL : List (List Int)} {f : List Int → Bool} {k n : Nat} (h : Gone AL FL f k n) (hF : FL = AL.filter f) (hk : k ≤ FL.length) : ((AL.take n).filter f).length = k := by
  rw [h.2, List.length_take]
  omega
theorem Gone.skip {AL FL : List (List Int)} {f : List Int → Bool} {k n : Nat} {x : List Int} (h : Gone AL FL f k n) (hx : AL[n]? = some x) (hf : f x = false) : Gone AL FL f k (n + 1) := by
  have hn := (List.getElem?_eq_some_iff.1 hx).1
  refine ⟨by omega, ?_⟩
  rw [List.take_add_one, hx, List.filter_append, h.2]
  simp [hf]
theorem Gone.hit {AL FL : List (List Int)} {f : List Int → Bool} {k n : Nat} {x a : List Int} (h : Gone AL FL f k n) (hF : FL = AL.filter f) (hx : AL[n]? = some x) (hf : f x = true) (ha : FL[k]? = some a) : x = a ∧ Gone AL FL f (k + 1) (n + 1) := by
  have hk := (List.getElem?_eq_some_iff.1 ha).1
  have hl := h.len hF (by omega)
  have h1 := gone_pre hF hx hf
  have h2 : FL[k]? = some x := by rw [h1, List.getElem?_append_right (by omega), hl, Nat.sub_self]; rfl
  have h3 : x = a := Option.some.inj (h2.symm.trans ha)
  have hn := (List.getElem?_eq_some_iff.1 hx).1
  refine ⟨h3, by omega, ?_⟩
  rw [List.take_add_one, hx, List.filter_append, h.2, List.take_add_one, ha, ← h3]
  simp [hf]
theorem Gone.more {AL FL : List (List Int)} {f : List Int → Bool} {k n : Nat} (h : Gone AL FL f k n) (hF : FL = AL.filter f) (hk : k < FL.length) : n < AL.length := by
  rcases Nat.lt_or_ge n AL.length with hn | hn
  · exact hn
  · have h1 := h.len hF (by omega)
    rw [List.take_of_length_le hn, ← hF] at h1
    omega
theorem Gone.none {AL FL : List (List Int)} {f : List Int → Bool} {n : Nat} {x : List Int} (h : Gone AL FL f FL.length n) (hF : FL = AL.filter f) (hx : AL[n]? = some x) : f x = false := by
  cases hf : f x with
  | false => rfl
  | true =>
    have h1 := gone_pre hF hx hf
    have h2 := congrArg List.length h1
    rw [List.length_append, h.len hF (Nat.le_refl _), List.length_cons] at h2
    omega

end Go.Proofs.YtijplknkpkmblaaDoor
