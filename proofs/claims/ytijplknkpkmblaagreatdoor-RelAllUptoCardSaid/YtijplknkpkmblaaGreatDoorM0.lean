/- Contracts of functions of the program: what each returns and leaves in memory. Printed by gen.py and walk.py. -/
import Derived.Test.YtijplknkpkmblaaGreatDoorL9
namespace Go.Proofs.YtijplknkpkmblaaGreatDoor
open Go Go.Hw
set_option linter.unusedSimpArgs false
set_option linter.unusedVariables false
/-! ### A relation that has grown -/
def turnRP (L : List (List Int × Nat)) : List (List Int × Nat) := L.map fun p => (p.1, if p.2 = 4 then 2 else 1)
theorem rp_turn (g : RelG) : rp (turnG g) = turnRP (rp g) := by
  simp [rp, turnRP, turnG, turnE]
def addsRP (wd : Nat) (L : List (List Int × Nat)) (ls : List (List Int)) : List (List Int × Nat) := ls.foldl (fun L l => addRP wd L (wideL l wd)) L
theorem addsRP_snoc (wd : Nat) (L : List (List Int × Nat)) (ls : List (List Int)) (l : List Int) : addsRP wd L (ls ++ [l]) = addRP wd (addsRP wd L ls) (wideL l wd) := by simp [addsRP]
/-- Behind the first batches. -/
def growTo (wd : Nat) (bs : List (List (List Int))) : Nat → List (List Int × Nat)
  | 0 => []
  | i + 1 => addsRP wd (if 0 < i then turnRP (growTo wd bs i) else growTo wd bs i) (bs.getD i [])
/-- A list of batches. -/
structure BLi (w : World) (a : Option Addr) (n : Nat) (bs : List (List (List Int))) : Prop where
  len : bs.length = n
  nil : a = none → n = 0
  at_ : ∀ q, a = some q → ∀ i ls, bs[i]? = some ls → ∃ a' c', w.cell? (q.add i) = some (.slice a' ls.length c') ∧ RLi w a' ls.length ls
  sum : bs.length + (bs.map List.length).sum ≤ 1048576
theorem BLi.keeps {w w' : World} {a : Option Addr} {n : Nat} {bs : List (List (List Int))} (h : BLi w a n bs) (k : Keeps w w') : BLi w' a n bs :=
  ⟨h.len, h.nil, fun q hq i l hl => by
    obtain ⟨a', c', h1, h2⟩ := h.at_ q hq i l hl
    exact ⟨a', c', k _ _ h1, h2.keeps k⟩, h.sum⟩
theorem sum_split (bs : List (List (List Int))) {i : Nat} {ls : List (List Int)} (h : bs[i]? = some ls) : ((bs.take (i + 1)).map List.length).sum = ((bs.take i).map List.length).sum + ls.length := by
  rw [List.take_add_one, h]
  simp
theorem sum_take_le (bs : List (List (List Int))) (i : Nat) : ((bs.take i).map List.length).sum ≤ (bs.map List.length).sum := by
  conv => rhs; rw [← List.take_append_drop i bs, List.map_append, List.sum_append]
  omega
theorem BLi.get {w : World} {a : Option Addr} {n : Nat} {bs : List (List (List Int))} (h : BLi w a n bs) {i : Nat} (hi : i < n) : ∃ q ls a' c', a = some q ∧ bs[i]? = some ls ∧ bs.getD i [] = ls ∧ w.cell? (q.add i) = some (.slice a' ls.length c') ∧ RLi w a' ls.length ls ∧ ((bs.take (i + 1)).map List.length).sum = ((bs.take i).map List.length).sum + ls.length ∧ ((bs.take (i + 1)).map List.length).sum ≤ 1048576 := by
  cases a with
  | none => have := h.nil rfl; omega
  | some q =>
    have hl : i < bs.length := by rw [h.len]; exact hi
    obtain ⟨a', c', h1, h2⟩ := h.at_ q rfl i _ (List.getElem?_eq_getElem hl)
    have h3 := sum_take_le bs (i + 1)
    have h4 := h.sum
    exact ⟨q, bs[i], a', c', rfl, List.getElem?_eq_getElem hl, by simp [hl], h1, h2, sum_split bs (List.getElem?_eq_getElem hl), by omega⟩
theorem addRP_len (wd : Nat) (L : List (List Int × Nat)) (l : List Int) : (addRP wd L l).length ≤ L.length + 1 := by
  unfold addRP; split <;> simp
theorem turnRP_len (L : List (List Int × Nat)) : (turnRP L).length = L.length := by simp [turnRP]
theorem es_len {g : RelG} {L : List (List Int × Nat)} (h : rp g = L) : g.es.length = L.length := by rw [← h, rp_len]
theorem colmem {la : Option Addr} {lc : Nat} {ys : List Col} {y : Col} (h : y ∈ ys) : row 3 1 y.a y.l.length y.c (ints y.l) ∈ lstA la lc ys := .tail _ (List.mem_flatMap.2 ⟨y, h, .head _⟩)
theorem col_at {ys : List Col} {rows : List (List Int)} (h : ys.map Col.l = rows) {k : Nat} (hk : k < ys.length) : ∃ y, ys[k]? = some y ∧ y ∈ ys ∧ rows[k]? = some y.l := by
  refine ⟨ys[k], List.getElem?_eq_getElem hk, List.getElem_mem hk, ?_⟩
  rw [← h, List.getElem?_map, List.getElem?_eq_getElem hk]
  rfl
theorem lst_addr {w0 ws w : World} {M I : Nat → Prop} {ow : List Hw.Item} {la : Option Addr} {lc : Nat} {ys : List Col} (hw : Sat w0 M I ws ow w) (hm : row 32 1 la ys.length lc (ys.map encC) ∈ ow) : 0 < ys.length → ∃ q, la = some ⟨q, 0, none⟩ := fun hp => row_addr (hw.it _ hm) hp

end Go.Proofs.YtijplknkpkmblaaGreatDoor
