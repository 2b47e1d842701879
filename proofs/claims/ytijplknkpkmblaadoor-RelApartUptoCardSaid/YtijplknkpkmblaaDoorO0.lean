/- Contracts of functions of the program: what each returns and leaves in memory. Printed by gen.py and walk.py. -/
import Derived.Test.YtijplknkpkmblaaDoorM2
import Derived.Test.YtijplknkpkmblaaDoorRows
namespace Go.Proofs.YtijplknkpkmblaaDoor
open Go Go.Hw
set_option linter.unusedSimpArgs false
set_option linter.unusedVariables false
section
open Go.ChangeShapes Go.WideShapes Go.ChangeAt Go.RowKit
variable {H : Type} {enc : TypeId × Value → H} {w : World} {base : Nat} {spare : Nat → Bool} {held : Bool} {r : Reach} {b0 : Nat}
/-- A list of things of one cell each. -/
theorem trod_list {α : Type} (dflt : α) {tt t : TypeId} {fuel : Nat} {cs : List Value} {x : DataW H × List MemPlace} (htt : Program.underlying Tryd.prog tt = some (.slice t)) (h1 : Program.cellsOf Tryd.prog t = 1) (G : Value → α → Prop) (D : DataW H → α → Prop)
    (hel : ∀ fuel cs x, DataW.trod enc Tryd.prog w base spare held fuel t cs = some x → ∃ v y, cs = [v] ∧ G v y ∧ D x.1 y) (h : DataW.trod enc Tryd.prog w base spare held fuel tt cs = some x) :
    ∃ a n c, ∃ ys : List α, cs = [.slice a n c] ∧ ys.length = n ∧ (a = none → n = 0) ∧ (∀ q, a = some q → ∀ i, i < n → ∃ v, w.cell? (q.add i) = some v ∧ G v (ys.getD i dflt)) ∧
      ((x.1 = .nil ∧ ys = []) ∨ ∃ elems rest, x.1 = .slice elems rest ∧ elems.length = ys.length ∧ ∀ i d, elems[i]? = some d → D d (ys.getD i dflt)) := by
  rcases DataW.trod_slice htt h with ⟨rfl, rfl⟩ | ⟨a, len, cap, elems, rest, n, rfl, rfl, rfl, hb, hlc, hcm, hlen, hele, _, _⟩
  · exact ⟨none, 0, 0, [], rfl, rfl, fun _ => rfl, fun q hq => (by cases hq), .inl ⟨rfl, rfl⟩⟩
  · have key : ∀ i, i < len → ∃ y : α, (∃ v, w.cell? (a.add i) = some v ∧ G v y) ∧ ∀ d, (elems.map (·.1))[i]? = some d → D d y := by
      intro i hi
      have h3 := hele i hi
      rw [h1, Nat.mul_one] at h3
      have h4 : i < elems.length := by omega
      rw [List.getElem?_eq_getElem h4] at h3
      obtain ⟨us, hus, h5⟩ := Option.bind_eq_some_iff.1 h3
      obtain ⟨v, y, rfl, h6, h7⟩ := hel _ _ _ h5
      have h8 := (World.cells?_some hus).2.2 0 (by omega)
      refine ⟨y, ⟨v, by simpa [addr_add0] using h8, h6⟩, fun d hd => ?_⟩
      rw [List.getElem?_map, List.getElem?_eq_getElem h4] at hd
      simp only [Option.map_some, Option.some.injEq] at hd
      rw [← hd]; exact h7
    obtain ⟨ys, hyl, hq⟩ := exists_list dflt _ len key
    refine ⟨some a, len, cap, ys, rfl, hyl, fun h => (by cases h), fun q hq' i hi => ?_, .inr ⟨_, _, rfl, by simp [hyl, hlen], fun i d hd => ?_⟩⟩
    · simp only [Option.some.injEq] at hq'
      subst hq'
      exact (hq i hi).1
    · have hi : i < len := by have := (List.getElem?_eq_some_iff.1 hd).1; simp at this; omega
      exact (hq i hi).2 d hd
def inI (k : Int) : Prop := -9223372036854775808 ≤ k ∧ k ≤ 9223372036854775807
theorem getD_at {α : Type} {l : List α} {i : Nat} {x d : α} (h : l[i]? = some x) : l.getD i d = x := by rw [List.getD_eq_getElem?_getD, h]; rfl
theorem DB_of {x : DataW H} {ys : List Int} {Q : DataW H → Nat → Prop} (h : (x = .nil ∧ ys = []) ∨ ∃ elems rest, x = .slice elems rest ∧ elems.length = ys.length ∧ ∀ i d, elems[i]? = some d → Q d i) : DB x ys.length := by
  rcases h with ⟨h1, rfl⟩ | ⟨elems, rest, h1, h2, _⟩
  · exact .inl ⟨h1, rfl⟩
  · exact .inr ⟨elems, rest, h1, h2⟩
theorem trod_ints {fuel : Nat} {cs : List Value} {x : DataW H × List MemPlace} (h : DataW.trod enc Tryd.prog w base spare held fuel 23 cs = some x) :
    ∃ a c l, cs = [.slice a l.length c] ∧ RI w a l.length l ∧ i64s l ∧ DB x.1 l.length := by
  obtain ⟨a, n, c, ys, hcs, rfl, ha, hat, hd⟩ := trod_list (0 : Int) T.u23 (by kernel_rfl) (fun v k => v = .int .i64 k ∧ inI k) (fun _ _ => True) (fun fuel cs x hx => by
    obtain ⟨k, e0, d0, w0⟩ := DataW.trod_int T.u3 hx
    exact ⟨_, k, e0, ⟨rfl, by simpa [inI, Lit.wf, IntKind.min, IntKind.max, IntKind.signed, IntKind.bits] using w0⟩, trivial⟩) h
  have hall : ∀ q, a = some q → ∀ j k, ys[j]? = some k → w.cell? (q.add j) = some (.int .i64 k) ∧ inI k := fun q hq j k hk => by
    have hj := (List.getElem?_eq_some_iff.1 hk).1
    obtain ⟨v, h1, rfl, h3⟩ := hat q hq j hj
    rw [getD_at hk] at h1 h3
    exact ⟨h1, h3⟩
  refine ⟨a, c, ys, hcs, ⟨rfl, ha, fun q hq j k hk => (hall q hq j k hk).1⟩, fun k hk => ?_, DB_of hd⟩
  obtain ⟨j, hj⟩ := List.mem_iff_getElem?.1 hk
  cases a with
  | none =>
    have h0 : ys.length = 0 := ha rfl
    have := (List.getElem?_eq_some_iff.1 hj).1
    omega
  | some q => exact (hall q rfl j k hj).2
/-- A list of rows, no bounds yet. -/
structure RLr (w : World) (a : Option Addr) (ls : List (List Int)) : Prop where
  nil : a = none → ls.length = 0
  at_ : ∀ q, a = some q → ∀ i l, ls[i]? = some l → ∃ a' c', w.cell? (q.add i) = some (.slice a' l.length c') ∧ RI w a' l.length l
  i64 : ∀ l ∈ ls, i64s l
def DRows (d : DataW H) (ls : List (List Int)) : Prop := (d = .nil ∧ ls = []) ∨ ∃ elems rest, d = .slice elems rest ∧ elems.length = ls.length ∧ ∀ i d, elems[i]? = some d → DB d (ls.getD i []).length
theorem trod_rows {fuel : Nat} {cs : List Value} {x : DataW H × List MemPlace} (h : DataW.trod enc Tryd.prog w base spare held fuel 29 cs = some x) :
    ∃ a c ls, cs = [.slice a ls.length c] ∧ RLr w a ls ∧ DRows x.1 ls := by
  obtain ⟨a, n, c, ys, hcs, rfl, ha, hat, hd⟩ := trod_list ([] : List Int) T.u29 (by kernel_rfl) (fun v l => ∃ a' c', v = .slice a' l.length c' ∧ RI w a' l.length l ∧ i64s l) (fun d l => DB d l.length) (fun fuel cs x hx => by
    obtain ⟨a', c', l, e0, h1, h2, h3⟩ := trod_ints hx
    exact ⟨_, l, e0, ⟨a', c', rfl, h1, h2⟩, h3⟩) h
  have hall : ∀ q, a = some q → ∀ i l, ys[i]? = some l → ∃ a' c', w.cell? (q.add i) = some (.slice a' l.length c') ∧ RI w a' l.length l ∧ i64s l := fun q hq j k hk => by
    have hj := (List.getElem?_eq_some_iff.1 hk).1
    obtain ⟨v, h1, a', c', rfl, h2, h3⟩ := hat q hq j hj
    rw [getD_at hk] at h1 h2 h3
    exact ⟨a', c', h1, h2, h3⟩
  refine ⟨a, c, ys, hcs, ⟨ha, fun q hq i l hl => ?_, fun k hk => ?_⟩, hd⟩
  · obtain ⟨a', c', h1, h2, _⟩ := hall q hq i l hl
    exact ⟨a', c', h1, h2⟩
  obtain ⟨j, hj⟩ := List.mem_iff_getElem?.1 hk
  cases a with
  | none =>
    have h0 : ys.length = 0 := ha rfl
    have := (List.getElem?_eq_some_iff.1 hj).1
    omega
  | some q => obtain ⟨_, _, _, _, h3⟩ := hall q rfl j k hj; exact h3
theorem bulk_one {d : DataW H} {m : Nat} (h : DB d m) : m + 1 ≤ Rows.uptoBulk d := by
  rcases h with ⟨rfl, rfl⟩ | ⟨elems, rest, rfl, rfl⟩
  · simp [Rows.uptoBulk]
  · have key : ∀ l : List (DataW H), l.length ≤ Rows.uptoBulkAll l := by
      intro l
      induction l with
      | nil => simp [Rows.uptoBulkAll]
      | cons x r ih =>
        have hx : 1 ≤ Rows.uptoBulk x := by cases x with
          | lit l => cases l <;> simp [Rows.uptoBulk]
          | _ => simp [Rows.uptoBulk]
        simp only [Rows.uptoBulkAll, List.length_cons]; omega
    have := key elems
    simp only [Rows.uptoBulk]; omega
/-- A list's bulk is no less than what its elements weigh. -/
theorem bulk_sum {α : Type} (dflt : α) (wt : α → Nat) : ∀ (elems : List (DataW H)) (ys : List α), elems.length = ys.length → (∀ i d, elems[i]? = some d → wt (ys.getD i dflt) + 1 ≤ Rows.uptoBulk d) → (ys.map wt).sum + ys.length ≤ Rows.uptoBulkAll elems
  | [], [], _, _ => by simp [Rows.uptoBulkAll]
  | [], _ :: _, h, _ => by simp at h
  | _ :: _, [], h, _ => by simp at h
  | d :: elems, y :: ys, h, hd => by
    have h1 := hd 0 d rfl
    have h2 := bulk_sum dflt wt elems ys (by simpa using h) (fun i d hi => hd (i + 1) d hi)
    simp only [List.getD_cons_zero] at h1
    simp only [List.map_cons, List.sum_cons, List.length_cons, Rows.uptoBulkAll]
    omega
def wtR (ls : List (List Int)) : Nat := (ls.map List.length).sum + ls.length
theorem bulk_rows {d : DataW H} {ls : List (List Int)} (h : DRows d ls) : wtR ls + 1 ≤ Rows.uptoBulk d := by
  rcases h with ⟨rfl, rfl⟩ | ⟨elems, rest, rfl, h1, h2⟩
  · simp [Rows.uptoBulk, wtR]
  · have := bulk_sum ([] : List Int) List.length elems ls h1 (fun i d hd => bulk_one (h2 i d hd))
    unfold wtR
    simp only [Rows.uptoBulk]; omega
theorem le_sum {α : Type} (wt : α → Nat) {ys : List α} {y : α} (h : y ∈ ys) : wt y ≤ (ys.map wt).sum := by
  induction ys with
  | nil => cases h
  | cons x ys ih =>
    rw [List.map_cons, List.sum_cons]
    rcases List.mem_cons.1 h with rfl | h
    · omega
    · have := ih h; omega
theorem RLr.toI {a : Option Addr} {ls : List (List Int)} (h : RLr w a ls) (hb : wtR ls ≤ 1048576) : RLi w a ls.length ls := by
  unfold wtR at hb
  exact ⟨rfl, h.nil, by omega, h.at_, fun l hl => by have := le_sum List.length hl; omega, h.i64⟩
set_option maxRecDepth 100000 in
theorem open_ints {v : Value} {d : DataW H} {p : List MemPlace} (hv : Value.okWide Tryd.prog w r b0 23 v) (h : DataW.Trod enc Tryd.prog w base spare held 23 v d p) : ∃ a c l, v = .slice a l.length c ∧ RI w a l.length l ∧ i64s l ∧ DB d l.length := by
  obtain ⟨fuel, hf⟩ := h
  obtain ⟨a, c, l, hcs, h1, h2, h3⟩ := trod_ints hf
  exact ⟨a, c, l, slice_of_ok (P := Tryd.prog) T.u23 hv hcs, h1, h2, h3⟩

def DBat (d : DataW H) (ls : List (List Int)) : Prop := ∃ z, d = .agg [z] ∧ DRows z ls
set_option maxRecDepth 100000 in
theorem trod_batch {fuel : Nat} {cs : List Value} {x : DataW H × List MemPlace} (h : DataW.trod enc Tryd.prog w base spare held fuel 45 cs = some x) :
    ∃ a c ls, cs = [.slice a ls.length c] ∧ RLr w a ls ∧ DBat x.1 ls := by
  obtain ⟨xs, n, rfl, rfl, hl, hxs, hf⟩ := DataW.trod_struct T.u45 h
  have hl1 : cs.length = 1 := by rw [hl]; kernel_rfl
  have c29 : Program.cellsOf Tryd.prog 29 = 1 := by kernel_rfl
  match cs, hl1 with
  | [v0], _ =>
    match xs, hxs with
    | [x0], _ =>
      have k0 : DataW.trod enc Tryd.prog w base spare held n 29 [v0] = some x0 := by
        have k : DataW.trod enc Tryd.prog w base spare held n 29 (List.take (Program.cellsOf Tryd.prog 29) (List.drop 0 [v0])) = some x0 := hf 0 _ rfl
        rw [c29] at k
        exact k
      obtain ⟨a, c, ls, h1, h2, h3⟩ := trod_rows k0
      exact ⟨a, c, ls, h1, h2, x0.1, by simp, h3⟩
set_option maxRecDepth 100000 in
theorem open_batch {v : Value} {d : DataW H} {p : List MemPlace} (hv : Value.okWide Tryd.prog w r b0 45 v) (h : DataW.Trod enc Tryd.prog w base spare held 45 v d p) : ∃ a c ls, v = .agg #[.slice a ls.length c] ∧ RLr w a ls ∧ DBat d ls := by
  obtain ⟨fuel, hf⟩ := h
  obtain ⟨a, c, ls, hcs, h1, h2⟩ := trod_batch hf
  unfold Value.okWide at hv
  rw [T.u45] at hv
  obtain ⟨cs, rfl, _⟩ := hv
  refine ⟨a, c, ls, ?_, h1, h2⟩
  have : cs.toList = [.slice a ls.length c] := hcs
  rw [← Array.toArray_toList (xs := cs), this]
def DBats (d : DataW H) (bs : List (List (List Int))) : Prop := (d = .nil ∧ bs = []) ∨ ∃ elems rest, d = .slice elems rest ∧ elems.length = bs.length ∧ ∀ i d, elems[i]? = some d → DBat d (bs.getD i [])
structure BLr (w : World) (a : Option Addr) (bs : List (List (List Int))) : Prop where
  nil : a = none → bs.length = 0
  at_ : ∀ q, a = some q → ∀ i ls, bs[i]? = some ls → ∃ a' c', w.cell? (q.add i) = some (.slice a' ls.length c') ∧ RLr w a' ls
theorem trod_bats {fuel : Nat} {cs : List Value} {x : DataW H × List MemPlace} (h : DataW.trod enc Tryd.prog w base spare held fuel 22 cs = some x) :
    ∃ a c bs, cs = [.slice a bs.length c] ∧ BLr w a bs ∧ DBats x.1 bs := by
  obtain ⟨a, n, c, ys, hcs, rfl, ha, hat, hd⟩ := trod_list ([] : List (List Int)) T.u22 (by kernel_rfl) (fun v ls => ∃ a' c', v = .slice a' ls.length c' ∧ RLr w a' ls) DBat (fun fuel cs x hx => by
    obtain ⟨a', c', l, e0, h1, h3⟩ := trod_batch hx
    exact ⟨_, l, e0, ⟨a', c', rfl, h1⟩, h3⟩) h
  refine ⟨a, c, ys, hcs, ⟨ha, fun q hq j k hk => ?_⟩, hd⟩
  have hj := (List.getElem?_eq_some_iff.1 hk).1
  obtain ⟨v, h1, a', c', rfl, h2⟩ := hat q hq j hj
  rw [getD_at hk] at h1 h2
  exact ⟨a', c', h1, h2⟩
def wtB (bs : List (List (List Int))) : Nat := (bs.map wtR).sum + bs.length
theorem bulk_bat {d : DataW H} {ls : List (List Int)} (h : DBat d ls) : wtR ls + 1 ≤ Rows.uptoBulk d := by
  obtain ⟨z, rfl, hz⟩ := h
  have := bulk_rows hz
  simp only [Rows.uptoBulk, Rows.uptoBulkAll]; omega
theorem bulk_bats {d : DataW H} {bs : List (List (List Int))} (h : DBats d bs) : wtB bs + 1 ≤ Rows.uptoBulk d := by
  rcases h with ⟨rfl, rfl⟩ | ⟨elems, rest, rfl, h1, h2⟩
  · simp [Rows.uptoBulk, wtB]
  · have := bulk_sum ([] : List (List Int)) wtR elems bs h1 (fun i d hd => bulk_bat (h2 i d hd))
    unfold wtB
    simp only [Rows.uptoBulk]; omega
theorem BLr.toI {a : Option Addr} {bs : List (List (List Int))} (h : BLr w a bs) (hb : wtB bs ≤ 1048576) : BLi w a bs.length bs := by
  unfold wtB at hb
  refine ⟨rfl, h.nil, fun q hq i ls hl => ?_, ?_⟩
  · obtain ⟨a', c', h1, h2⟩ := h.at_ q hq i ls hl
    have := le_sum wtR (List.mem_of_getElem? hl)
    exact ⟨a', c', h1, h2.toI (by omega)⟩
  · have : ∀ l : List (List (List Int)), (l.map List.length).sum ≤ (l.map wtR).sum := by
      intro l
      induction l with
      | nil => simp
      | cons x l ih => simp only [List.map_cons, List.sum_cons]; have : x.length ≤ wtR x := by unfold wtR; omega
                       omega
    have := this bs
    omega
set_option maxRecDepth 100000 in
theorem open_bats {v : Value} {d : DataW H} {p : List MemPlace} (hv : Value.okWide Tryd.prog w r b0 22 v) (h : DataW.Trod enc Tryd.prog w base spare held 22 v d p) : ∃ a c bs, v = .slice a bs.length c ∧ BLr w a bs ∧ DBats d bs := by
  obtain ⟨fuel, hf⟩ := h
  obtain ⟨a, c, bs, hcs, h1, h2⟩ := trod_bats hf
  exact ⟨a, c, bs, slice_of_ok (P := Tryd.prog) T.u22 hv hcs, h1, h2⟩

end

end Go.Proofs.YtijplknkpkmblaaDoor
