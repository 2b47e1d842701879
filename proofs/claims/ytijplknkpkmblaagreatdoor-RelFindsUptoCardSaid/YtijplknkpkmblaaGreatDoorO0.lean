/- Contracts of functions of the program: what each returns and leaves in memory. Printed by gen.py and walk.py. -/
import Derived.Test.YtijplknkpkmblaaGreatDoorZ9
import Derived.Test.YtijplknkpkmblaaGreatDoorRows
namespace Go.Proofs.YtijplknkpkmblaaGreatDoor
open Go Go.Hw
set_option linter.unusedSimpArgs false
set_option linter.unusedVariables false
section
open Go.ChangeShapes Go.WideShapes Go.ChangeAt Go.RowKit
variable {H : Type} {enc : TypeId × Value → H} {w : World} {base : Nat} {spare : Nat → Bool} {held : Bool} {r : Reach} {b0 : Nat}
/-- A list of things of one cell each. -/
theorem trod_list {α : Type} (dflt : α) {tt t : TypeId} {fuel : Nat} {cs : List Value} {x : DataW H × List MemPlace} (htt : Program.underlying Tryz.prog tt = some (.slice t)) (h1 : Program.cellsOf Tryz.prog t = 1) (G : Value → α → Prop) (D : DataW H → α → Prop)
    (hel : ∀ fuel cs x, DataW.trod enc Tryz.prog w base spare held fuel t cs = some x → ∃ v y, cs = [v] ∧ G v y ∧ D x.1 y) (h : DataW.trod enc Tryz.prog w base spare held fuel tt cs = some x) :
    ∃ a n c, ∃ ys : List α, cs = [.slice a n c] ∧ ys.length = n ∧ (a = none → n = 0) ∧ (∀ q, a = some q → ∀ i, i < n → ∃ v, w.cell? (q.add i) = some v ∧ G v (ys.getD i dflt)) ∧
      ((x.1 = .nil ∧ ys = []) ∨ ∃ elems rest, x.1 = .slice elems rest ∧ elems.length = ys.length ∧ ∀ i d, elems[i]? = some d → D d (ys.getD i dflt)) := by
  rcases DataW.trod_slice htt h with ⟨rfl, rfl⟩ | ⟨a, len, cap, elems, rest, n, rfl, rfl, rfl, hb, hlc, hcm, hlen, hele, _, _⟩
  · exact ⟨none, 0, 0, [], rfl, rfl, fun _ => rfl, fun q hq => (by cases hq), .inl ⟨rfl, rfl⟩⟩
  · have key : ∀ i, i < len → ∃ y : α, (∃ v, w.cell? (a.add i) = some v ∧ G v y) ∧ ∀ d, (elems.map (·.1))[i]? = some d → D d y := by
      intro i hi
      have h3 := hele i hi
      rw [h1, Nat.mul_one] at h3
      have h4 : i < elems.length := by omega
      rw [List.getElem?_eq_getElem h4] at h3
      obtain ⟨us, hus, h5⟩ := Option.bind_eq_some_iff.1 h3
      obtain ⟨v, y, rfl, h6, h7⟩ := hel _ _ _ h5
      have h8 := (World.cells?_some hus).2.2 0 (by omega)
      refine ⟨y, ⟨v, by simpa [addr_add0] using h8, h6⟩, fun d hd => ?_⟩
      rw [List.getElem?_map, List.getElem?_eq_getElem h4] at hd
      simp only [Option.map_some, Option.some.injEq] at hd
      rw [← hd]; exact h7
    obtain ⟨ys, hyl, hq⟩ := exists_list dflt _ len key
    refine ⟨some a, len, cap, ys, rfl, hyl, fun h => (by cases h), fun q hq' i hi => ?_, .inr ⟨_, _, rfl, by simp [hyl, hlen], fun i d hd => ?_⟩⟩
    · simp only [Option.some.injEq] at hq'
      subst hq'
      exact (hq i hi).1
    · have hi : i < len := by have := (List.getElem?_eq_some_iff.1 hd).1; simp at this; omega
      exact (hq i hi).2 d hd
def inI (k : Int) : Prop := -9223372036854775808 ≤ k ∧ k ≤ 9223372036854775807
theorem getD_at {α : Type} {l : List α} {i : Nat} {x d : α} (h : l[i]? = some x) : l.getD i d = x := by rw [List.getD_eq_getElem?_getD, h]; rfl
theorem DB_of {x : DataW H} {ys : List Int} {Q : DataW H → Nat → Prop} (h : (x = .nil ∧ ys = []) ∨ ∃ elems rest, x = .slice elems rest ∧ elems.length = ys.length ∧ ∀ i d, elems[i]? = some d → Q d i) : DB x ys.length := by
  rcases h with ⟨h1, rfl⟩ | ⟨elems, rest, h1, h2, _⟩
  · exact .inl ⟨h1, rfl⟩
  · exact .inr ⟨elems, rest, h1, h2⟩
theorem trod_ints {fuel : Nat} {cs : List Value} {x : DataW H × List MemPlace} (h : DataW.trod enc Tryz.prog w base spare held fuel 32 cs = some x) :
    ∃ a c l, cs = [.slice a l.length c] ∧ RI w a l.length l ∧ i64s l ∧ DB x.1 l.length := by
  obtain ⟨a, n, c, ys, hcs, rfl, ha, hat, hd⟩ := trod_list (0 : Int) T.u32 (by kernel_rfl) (fun v k => v = .int .i64 k ∧ inI k) (fun _ _ => True) (fun fuel cs x hx => by
    obtain ⟨k, e0, d0, w0⟩ := DataW.trod_int T.u3 hx
    exact ⟨_, k, e0, ⟨rfl, by simpa [inI, Lit.wf, IntKind.min, IntKind.max, IntKind.signed, IntKind.bits] using w0⟩, trivial⟩) h
  have hall : ∀ q, a = some q → ∀ j k, ys[j]? = some k → w.cell? (q.add j) = some (.int .i64 k) ∧ inI k := fun q hq j k hk => by
    have hj := (List.getElem?_eq_some_iff.1 hk).1
    obtain ⟨v, h1, rfl, h3⟩ := hat q hq j hj
    rw [getD_at hk] at h1 h3
    exact ⟨h1, h3⟩
  refine ⟨a, c, ys, hcs, ⟨rfl, ha, fun q hq j k hk => (hall q hq j k hk).1⟩, fun k hk => ?_, DB_of hd⟩
  obtain ⟨j, hj⟩ := List.mem_iff_getElem?.1 hk
  cases a with
  | none =>
    have h0 : ys.length = 0 := ha rfl
    have := (List.getElem?_eq_some_iff.1 hj).1
    omega
  | some q => exact (hall q rfl j k hj).2
/-- A list of rows, no bounds yet. -/
structure RLr (w : World) (a : Option Addr) (ls : List (List Int)) : Prop where
  nil : a = none → ls.length = 0
  at_ : ∀ q, a = some q → ∀ i l, ls[i]? = some l → ∃ a' c', w.cell? (q.add i) = some (.slice a' l.length c') ∧ RI w a' l.length l
  i64 : ∀ l ∈ ls, i64s l
def DRows (d : DataW H) (ls : List (List Int)) : Prop := (d = .nil ∧ ls = []) ∨ ∃ elems rest, d = .slice elems rest ∧ elems.length = ls.length ∧ ∀ i d, elems[i]? = some d → DB d (ls.getD i []).length
theorem trod_rows {fuel : Nat} {cs : List Value} {x : DataW H × List MemPlace} (h : DataW.trod enc Tryz.prog w base spare held fuel 48 cs = some x) :
    ∃ a c ls, cs = [.slice a ls.length c] ∧ RLr w a ls ∧ DRows x.1 ls := by
  obtain ⟨a, n, c, ys, hcs, rfl, ha, hat, hd⟩ := trod_list ([] : List Int) T.u48 (by kernel_rfl) (fun v l => ∃ a' c', v = .slice a' l.length c' ∧ RI w a' l.length l ∧ i64s l) (fun d l => DB d l.length) (fun fuel cs x hx => by
    obtain ⟨a', c', l, e0, h1, h2, h3⟩ := trod_ints hx
    exact ⟨_, l, e0, ⟨a', c', rfl, h1, h2⟩, h3⟩) h
  have hall : ∀ q, a = some q → ∀ i l, ys[i]? = some l → ∃ a' c', w.cell? (q.add i) = some (.slice a' l.length c') ∧ RI w a' l.length l ∧ i64s l := fun q hq j k hk => by
    have hj := (List.getElem?_eq_some_iff.1 hk).1
    obtain ⟨v, h1, a', c', rfl, h2, h3⟩ := hat q hq j hj
    rw [getD_at hk] at h1 h2 h3
    exact ⟨a', c', h1, h2, h3⟩
  refine ⟨a, c, ys, hcs, ⟨ha, fun q hq i l hl => ?_, fun k hk => ?_⟩, hd⟩
  · obtain ⟨a', c', h1, h2, _⟩ := hall q hq i l hl
    exact ⟨a', c', h1, h2⟩
  obtain ⟨j, hj⟩ := List.mem_iff_getElem?.1 hk
  cases a with
  | none =>
    have h0 : ys.length = 0 := ha rfl
    have := (List.getElem?_eq_some_iff.1 hj).1
    omega
  | some q => obtain ⟨_, _, _, _, h3⟩ := hall q rfl j k hj; exact h3
theorem bulk_one {d : DataW H} {m : Nat} (h : DB d m) : m + 1 ≤ Rows.uptoBulk d := by
  rcases h with ⟨rfl, rfl⟩ | ⟨elems, rest, rfl, rfl⟩
  · simp [Rows.uptoBulk]
  · have key : ∀ l : List (DataW H), l.length ≤ Rows.uptoBulkAll l := by
      intro l
      induction l with
      | nil => simp [Rows.uptoBulkAll]
      | cons x r ih =>
        have hx : 1 ≤ Rows.uptoBulk x := by cases x with
          | lit l => cases l <;> simp [Rows.uptoBulk]
          | _ => simp [Rows.uptoBulk]
        simp only [Rows.uptoBulkAll, List.length_cons]; omega
    have := key elems
    simp only [Rows.uptoBulk]; omega
/-- A list's bulk is no less than what its elements weigh. -/
theorem bulk_sum {α : Type} (dflt : α) (wt : α → Nat) : ∀ (elems : List (DataW H)) (ys : List α), elems.length = ys.length → (∀ i d, elems[i]? = some d → wt (ys.getD i dflt) + 1 ≤ Rows.uptoBulk d) → (ys.map wt).sum + ys.length ≤ Rows.uptoBulkAll elems
  | [], [], _, _ => by simp [Rows.uptoBulkAll]
  | [], _ :: _, h, _ => by simp at h
  | _ :: _, [], h, _ => by simp at h
  | d :: elems, y :: ys, h, hd => by
    have h1 := hd 0 d rfl
    have h2 := bulk_sum dflt wt elems ys (by simpa using h) (fun i d hi => hd (i + 1) d hi)
    simp only [List.getD_cons_zero] at h1
    simp only [List.map_cons, List.sum_cons, List.length_cons, Rows.uptoBulkAll]
    omega
def wtR (ls : List (List Int)) : Nat := (ls.map List.length).sum + ls.length
theorem bulk_rows {d : DataW H} {ls : List (List Int)} (h : DRows d ls) : wtR ls + 1 ≤ Rows.uptoBulk d := by
  rcases h with ⟨rfl, rfl⟩ | ⟨elems, rest, rfl, h1, h2⟩
  · simp [Rows.uptoBulk, wtR]
  · have := bulk_sum ([] : List Int) List.length elems ls h1 (fun i d hd => bulk_one (h2 i d hd))
    unfold wtR
    simp only [Rows.uptoBulk]; omega
theorem le_sum {α : Type} (wt : α → Nat) {ys : List α} {y : α} (h : y ∈ ys) : wt y ≤ (ys.map wt).sum := by
  induction ys with
  | nil => cases h
  | cons x ys ih =>
    rw [List.map_cons, List.sum_cons]
    rcases List.mem_cons.1 h with rfl | h
    · omega
    · have := ih h; omega
theorem RLr.toI {a : Option Addr} {ls : List (List Int)} (h : RLr w a ls) (hb : wtR ls ≤ 1048576) : RLi w a ls.length ls := by
  unfold wtR at hb
  exact ⟨rfl, h.nil, by omega, h.at_, fun l hl => by have := le_sum List.length hl; omega, h.i64⟩
set_option maxRecDepth 100000 in
theorem open_ints {v : Value} {d : DataW H} {p : List MemPlace} (hv : Value.okWide Tryz.prog w r b0 32 v) (h : DataW.Trod enc Tryz.prog w base spare held 32 v d p) : ∃ a c l, v = .slice a l.length c ∧ RI w a l.length l ∧ i64s l ∧ DB d l.length := by
  obtain ⟨fuel, hf⟩ := h
  obtain ⟨a, c, l, hcs, h1, h2, h3⟩ := trod_ints hf
  exact ⟨a, c, l, slice_of_ok (P := Tryz.prog) T.u32 hv hcs, h1, h2, h3⟩

def DO (d : DataW H) (o : OpR) : Prop := ∃ x0 x1 x2 x3 z4 z5 z6, d = .agg [x0, x1, x2, x3, z4, z5, z6] ∧ DB z4 o.rr.length ∧ DB z5 o.cols.length ∧ DB z6 o.key.length
set_option maxRecDepth 100000 in
theorem trod_op {fuel : Nat} {cs : List Value} {x : DataW H × List MemPlace} (h : DataW.trod enc Tryz.prog w base spare held fuel 34 cs = some x) :
    ∃ o : OpR, (∃ ra rc a1 c1 a2 c2, cs = opC o.kind o.parts o.stop o.two ra o.rr.length rc a1 o.cols.length c1 a2 o.key.length c2 ∧ RI w ra o.rr.length o.rr ∧ RI w a1 o.cols.length o.cols ∧ RI w a2 o.key.length o.key ∧ i64s o.rr ∧ i64s o.cols ∧ i64s o.key) ∧ DO x.1 o := by
  obtain ⟨xs, n, rfl, rfl, hl, hxs, hf⟩ := DataW.trod_struct T.u34 h
  have hl7 : cs.length = 7 := by rw [hl]; kernel_rfl
  have cI : Program.cellsOf Tryz.prog 3 = 1 := by kernel_rfl
  have cB : Program.cellsOf Tryz.prog 4 = 1 := by kernel_rfl
  have cS : Program.cellsOf Tryz.prog 32 = 1 := by kernel_rfl
  match cs, hl7 with
  | [v0, v1, v2, v3, v4, v5, v6], _ =>
    match xs, hxs with
    | [x0, x1, x2, x3, x4, x5, x6], _ =>
      have k0 : DataW.trod enc Tryz.prog w base spare held n 3 [v0] = some x0 := by
        have k : DataW.trod enc Tryz.prog w base spare held n 3 (List.take (Program.cellsOf Tryz.prog 3) (List.drop 0 [v0, v1, v2, v3, v4, v5, v6])) = some x0 := hf 0 _ rfl
        rw [cI] at k
        exact k
      have k1 : DataW.trod enc Tryz.prog w base spare held n 3 [v1] = some x1 := by
        have k : DataW.trod enc Tryz.prog w base spare held n 3 (List.take (Program.cellsOf Tryz.prog 3) (List.drop 1 [v0, v1, v2, v3, v4, v5, v6])) = some x1 := hf 1 _ rfl
        rw [cI] at k
        exact k
      have k2 : DataW.trod enc Tryz.prog w base spare held n 3 [v2] = some x2 := by
        have k : DataW.trod enc Tryz.prog w base spare held n 3 (List.take (Program.cellsOf Tryz.prog 3) (List.drop 2 [v0, v1, v2, v3, v4, v5, v6])) = some x2 := hf 2 _ rfl
        rw [cI] at k
        exact k
      have k3 : DataW.trod enc Tryz.prog w base spare held n 4 [v3] = some x3 := by
        have k : DataW.trod enc Tryz.prog w base spare held n 4 (List.take (Program.cellsOf Tryz.prog 4) (List.drop 3 [v0, v1, v2, v3, v4, v5, v6])) = some x3 := hf 3 _ rfl
        rw [cB] at k
        exact k
      have k4 : DataW.trod enc Tryz.prog w base spare held n 32 [v4] = some x4 := by
        have k : DataW.trod enc Tryz.prog w base spare held n 32 (List.take (Program.cellsOf Tryz.prog 32) (List.drop 4 [v0, v1, v2, v3, v4, v5, v6])) = some x4 := hf 4 _ rfl
        rw [cS] at k
        exact k
      have k5 : DataW.trod enc Tryz.prog w base spare held n 32 [v5] = some x5 := by
        have k : DataW.trod enc Tryz.prog w base spare held n 32 (List.take (Program.cellsOf Tryz.prog 32) (List.drop 5 [v0, v1, v2, v3, v4, v5, v6])) = some x5 := hf 5 _ rfl
        rw [cS] at k
        exact k
      have k6 : DataW.trod enc Tryz.prog w base spare held n 32 [v6] = some x6 := by
        have k : DataW.trod enc Tryz.prog w base spare held n 32 (List.take (Program.cellsOf Tryz.prog 32) (List.drop 6 [v0, v1, v2, v3, v4, v5, v6])) = some x6 := hf 6 _ rfl
        rw [cS] at k
        exact k
      obtain ⟨kind, e0, d0, _⟩ := DataW.trod_int T.u3 k0
      obtain ⟨parts, e1, d1, _⟩ := DataW.trod_int T.u3 k1
      obtain ⟨stop, e2, d2, _⟩ := DataW.trod_int T.u3 k2
      obtain ⟨two, e3, d3⟩ := DataW.trod_bool T.u4 k3
      obtain ⟨ra, rc, rr, e4, r4, i4, b4⟩ := trod_ints k4
      obtain ⟨a1, c1, cols, e5, r5, i5, b5⟩ := trod_ints k5
      obtain ⟨a2, c2, key, e6, r6, i6, b6⟩ := trod_ints k6
      simp only [List.cons.injEq, and_true] at e0 e1 e2 e3 e4 e5 e6
      subst e0; subst e1; subst e2; subst e3; subst e4; subst e5; subst e6
      exact ⟨⟨kind, parts, stop, two, rr, cols, key⟩, ⟨ra, rc, a1, c1, a2, c2, rfl, r4, r5, r6, i4, i5, i6⟩, x0.1, x1.1, x2.1, x3.1, x4.1, x5.1, x6.1, by simp, b4, b5, b6⟩
def DOs (d : DataW H) (os : List OpR) : Prop := (d = .nil ∧ os = []) ∨ ∃ elems rest, d = .slice elems rest ∧ elems.length = os.length ∧ ∀ i d, elems[i]? = some d → DO d (os.getD i default)
theorem bulk_op {d : DataW H} {o : OpR} (h : DO d o) : opWt o + 1 ≤ Rows.uptoBulk d := by
  obtain ⟨x0, x1, x2, x3, z4, z5, z6, rfl, h4, h5, h6⟩ := h
  have b4 := bulk_one h4
  have b5 := bulk_one h5
  have b6 := bulk_one h6
  unfold opWt
  simp only [Rows.uptoBulk, Rows.uptoBulkAll]
  omega
theorem bulk_ops {d : DataW H} {os : List OpR} (h : DOs d os) : (os.map opWt).sum + os.length + 1 ≤ Rows.uptoBulk d := by
  rcases h with ⟨rfl, rfl⟩ | ⟨elems, rest, rfl, h1, h2⟩
  · simp [Rows.uptoBulk]
  · have := bulk_sum (default : OpR) opWt elems os h1 (fun i d hd => bulk_op (h2 i d hd))
    simp only [Rows.uptoBulk]; omega
structure ROr (w : World) (a : Option Addr) (os : List OpR) : Prop where
  nil : a = none → os.length = 0
  at_ : ∀ q, a = some q → ∀ i o, os[i]? = some o → OpAt w (q.add (i * 7)) o
theorem ROr.to {a : Option Addr} {os : List OpR} (h : ROr w a os) (hb : (os.map opWt).sum + os.length ≤ 1048576) : ROs w a os.length os :=
  ⟨rfl, h.nil, h.at_, by omega, fun o ho => by have := le_sum opWt ho; omega⟩
set_option maxRecDepth 100000 in
theorem open_ops {v : Value} {d : DataW H} {p : List MemPlace} (hv : Value.okWide Tryz.prog w r b0 22 v) (h : DataW.Trod enc Tryz.prog w base spare held 22 v d p) :
    ∃ a c os, v = .slice a os.length c ∧ ROr w a os ∧ DOs d os := by
  obtain ⟨fuel, hf⟩ := h
  have c7 : Program.cellsOf Tryz.prog 34 = 7 := by kernel_rfl
  rcases DataW.trod_slice T.u22 hf with ⟨hcs, hx⟩ | ⟨a, len, cap, elems, rest, n, rfl, hcs, hx, hb, hlc, hcm, hlen, hel, _, _⟩
  · simp only [Prod.mk.injEq] at hx
    exact ⟨none, 0, [], slice_of_ok (P := Tryz.prog) T.u22 hv hcs, ⟨fun _ => rfl, fun b hb => by cases hb⟩, .inl ⟨hx.1, rfl⟩⟩
  · simp only [Prod.mk.injEq] at hx
    have key : ∀ i, i < len → ∃ o : OpR, OpAt w (a.add (i * 7)) o ∧ ∀ d, (elems.map (·.1))[i]? = some d → DO d o := by
      intro i hi
      have h3 := hel i hi
      rw [c7] at h3
      have h4 : i < elems.length := by omega
      rw [List.getElem?_eq_getElem h4] at h3
      obtain ⟨us, hus, h5⟩ := Option.bind_eq_some_iff.1 h3
      obtain ⟨o, ⟨ra, rc, a1, c1, a2, c2, rfl, h6⟩, hd⟩ := trod_op h5
      have h8 := (World.cells?_some hus).2.2
      refine ⟨o, ⟨ra, rc, a1, c1, a2, c2, fun j v hj => ?_, h6⟩, fun d hd2 => ?_⟩
      · have hj7 : j < 7 := by have := (List.getElem?_eq_some_iff.1 hj).1; simpa using this
        rw [h8 j hj7]; exact hj
      · rw [List.getElem?_map, List.getElem?_eq_getElem h4] at hd2
        simp only [Option.map_some, Option.some.injEq] at hd2
        rw [← hd2]; exact hd
    obtain ⟨os, hol, hq⟩ := exists_list (default : OpR) _ len key
    refine ⟨some a, cap, os, by rw [hol]; exact slice_of_ok (P := Tryz.prog) T.u22 hv hcs, ⟨fun h => (by cases h), fun q hq' i o ho => ?_⟩, .inr ⟨_, _, hx.1, by simp [hol, hlen], fun i d hd => ?_⟩⟩
    · simp only [Option.some.injEq] at hq'
      subst hq'
      have hi : i < len := by have := (List.getElem?_eq_some_iff.1 ho).1; omega
      have h9 := (hq i hi).1
      rwa [getD_at ho] at h9
    · have hi : i < len := by have := (List.getElem?_eq_some_iff.1 hd).1; simp at this; omega
      exact (hq i hi).2 d hd
end

end Go.Proofs.YtijplknkpkmblaaGreatDoor
