/- Contracts of functions of the program: what each returns and leaves in memory. Printed by gen.py and walk.py. -/
import Derived.Test.YtpgpkjbahlmgeaaGreatDoorMg18
import Derived.LaidMore
import Derived.Test.YtpgpkjbahlmgeaaGreatDoorRows
set_option maxRecDepth 10000
namespace Go.Proofs.YtpgpkjbahlmgeaaGreatDoor
open Go Go.Hw
set_option linter.unusedSimpArgs false
set_option linter.unusedVariables false
section
open Go.ChangeShapes Go.WideShapes Go.ChangeAt Go.RowKit
variable {H : Type} {enc : TypeId × Value → H} {w : World} {base : Nat} {spare : Nat → Bool} {held : Bool} {r : Reach} {b0 : Nat}
def inI (k : Int) : Prop := -9223372036854775808 ≤ k ∧ k ≤ 9223372036854775807
theorem getD_at {α : Type} {l : List α} {i : Nat} {x d : α} (h : l[i]? = some x) : l.getD i d = x := by rw [List.getD_eq_getElem?_getD, h]; rfl
theorem len_wt {α : Type} (wt : α → Nat) {k : Nat} (h : ∀ y, k ≤ wt y) (ys : List α) : k * ys.length ≤ (ys.map wt).sum := by
  induction ys with
  | nil => simp
  | cons x ys ih => have := h x; simp only [List.map_cons, List.sum_cons, List.length_cons]; rw [Nat.mul_add]; omega
theorem bulk_sum {α : Type} (dflt : α) (wt : α → Nat) : ∀ (elems : List (DataW H)) (ys : List α), elems.length = ys.length → (∀ i d, elems[i]? = some d → wt (ys.getD i dflt) ≤ Rows.uptoBulk d) → (ys.map wt).sum ≤ Rows.uptoBulkAll elems
  | [], [], _, _ => by simp [Rows.uptoBulkAll]
  | [], _ :: _, h, _ => by simp at h
  | _ :: _, [], h, _ => by simp at h
  | d :: elems, y :: ys, h, hd => by
    have h1 := hd 0 d rfl
    have h2 := bulk_sum dflt wt elems ys (by simpa using h) (fun i d hi => hd (i + 1) d hi)
    simp only [List.getD_cons_zero] at h1
    simp only [List.map_cons, List.sum_cons, Rows.uptoBulkAll]
    omega
/-- A list of things of s cells each. -/
theorem trod_listN {α : Type} (dflt : α) {tt t : TypeId} {s : Nat} {fuel : Nat} {cs : List Value} {x : DataW H × List MemPlace} (htt : Program.underlying Tryz.prog tt = some (.slice t)) (hs : Program.cellsOf Tryz.prog t = s) (en : α → List Value) (hl : ∀ y, (en y).length = s) (G : α → Prop) (wt : α → Nat)
    (hel : ∀ fuel cs x, DataW.trod enc Tryz.prog w base spare held fuel t cs = some x → ∃ y, cs = en y ∧ G y ∧ wt y ≤ Rows.uptoBulk x.1) (h : DataW.trod enc Tryz.prog w base spare held fuel tt cs = some x) :
    ∃ a c, ∃ ys : List α, cs = [.slice a ys.length c] ∧ (a = none → ys.length = 0) ∧ (∀ q, a = some q → ∀ i y, ys[i]? = some y → ∀ j v, (en y)[j]? = some v → w.cell? ((q.add (i * s)).add j) = some v) ∧ (∀ y ∈ ys, G y) ∧ (ys.map wt).sum + 1 ≤ Rows.uptoBulk x.1 := by
  rcases DataW.trod_slice htt h with ⟨rfl, rfl⟩ | ⟨a, len, cap, elems, rest, n, rfl, rfl, rfl, hb, hlc, hcm, hlen, hele, _, _⟩
  · exact ⟨none, 0, [], rfl, fun _ => rfl, (fun q hq => (by cases hq)), (fun y hy => by cases hy), by simp [Rows.uptoBulk]⟩
  · have key : ∀ i, i < len → ∃ y : α, ((∀ j v, (en y)[j]? = some v → w.cell? ((a.add (i * s)).add j) = some v) ∧ G y) ∧ ∀ d, (elems.map (·.1))[i]? = some d → wt y ≤ Rows.uptoBulk d := by
      intro i hi
      have h3 := hele i hi
      rw [hs] at h3
      have h4 : i < elems.length := by omega
      rw [List.getElem?_eq_getElem h4] at h3
      obtain ⟨us, hus, h5⟩ := Option.bind_eq_some_iff.1 h3
      obtain ⟨y, rfl, h6, h7⟩ := hel _ _ _ h5
      have h8 := (World.cells?_some hus).2.2
      refine ⟨y, ⟨fun j v hj => ?_, h6⟩, fun d hd => ?_⟩
      · have hj7 : j < s := by have := (List.getElem?_eq_some_iff.1 hj).1; rw [hl] at this; exact this
        rw [h8 j hj7]; exact hj
      · rw [List.getElem?_map, List.getElem?_eq_getElem h4] at hd
        simp only [Option.map_some, Option.some.injEq] at hd
        rw [← hd]; exact h7
    obtain ⟨ys, hyl, hq⟩ := exists_list dflt _ len key
    refine ⟨some a, cap, ys, by rw [hyl], fun h => (by cases h), fun q hq' i y hy => ?_, fun y hy => ?_, ?_⟩
    · simp only [Option.some.injEq] at hq'
      subst hq'
      have hi : i < len := by have := (List.getElem?_eq_some_iff.1 hy).1; omega
      have h9 := (hq i hi).1.1
      rwa [getD_at hy] at h9
    · obtain ⟨i, hi⟩ := List.mem_iff_getElem?.1 hy
      have hil : i < len := by have := (List.getElem?_eq_some_iff.1 hi).1; omega
      have h9 := (hq i hil).1.2
      rwa [getD_at hi] at h9
    · have := bulk_sum dflt wt (elems.map (·.1)) ys (by simp [hyl, hlen]) (fun i d hd => by
        have hi : i < len := by have := (List.getElem?_eq_some_iff.1 hd).1; simp at this; omega
        exact (hq i hi).2 d hd)
      simp only [Rows.uptoBulk]; omega
theorem inI_of {n : Int} (h : (Lit.int .i64 n).wf = true) : inI n := by simpa [inI, Lit.wf, IntKind.min, IntKind.max, IntKind.signed, IntKind.bits] using h
/-- A term's weight. -/
def wtT (t : Tm) : Nat := t.s.size + 4
set_option maxRecDepth 100000 in
theorem trod_term {fuel : Nat} {cs : List Value} {x : DataW H × List MemPlace} (h : DataW.trod enc Tryz.prog w base spare held fuel 23 cs = some x) :
    ∃ t : Tm, cs = tmC t ∧ (inI t.kind ∧ inI t.n) ∧ wtT t ≤ Rows.uptoBulk x.1 ∧ x.1 = .agg [.lit (.int .i64 t.kind), .lit (.int .i64 t.n), .lit (.string t.s.data.toList)] := by
  obtain ⟨xs, n, rfl, rfl, hl, hxs, hf⟩ := DataW.trod_struct T.u23 h
  have hl3 : cs.length = 3 := by rw [hl]; kernel_rfl
  have cI : Program.cellsOf Tryz.prog 3 = 1 := by kernel_rfl
  have cS : Program.cellsOf Tryz.prog 9 = 1 := by kernel_rfl
  match cs, hl3 with
  | [v0, v1, v2], _ =>
    match xs, hxs with
    | [x0, x1, x2], _ =>
      have k0 : DataW.trod enc Tryz.prog w base spare held n 3 [v0] = some x0 := by
        have k : DataW.trod enc Tryz.prog w base spare held n 3 (List.take (Program.cellsOf Tryz.prog 3) (List.drop 0 [v0, v1, v2])) = some x0 := hf 0 _ rfl
        rw [cI] at k; exact k
      have k1 : DataW.trod enc Tryz.prog w base spare held n 3 [v1] = some x1 := by
        have k : DataW.trod enc Tryz.prog w base spare held n 3 (List.take (Program.cellsOf Tryz.prog 3) (List.drop 1 [v0, v1, v2])) = some x1 := hf 1 _ rfl
        rw [cI] at k; exact k
      have k2 : DataW.trod enc Tryz.prog w base spare held n 9 [v2] = some x2 := by
        have k : DataW.trod enc Tryz.prog w base spare held n 9 (List.take (Program.cellsOf Tryz.prog 9) (List.drop 2 [v0, v1, v2])) = some x2 := hf 2 _ rfl
        rw [cS] at k; exact k
      obtain ⟨kind, e0, rfl, w0⟩ := DataW.trod_int T.u3 k0
      obtain ⟨num, e1, rfl, w1⟩ := DataW.trod_int T.u3 k1
      obtain ⟨s, e2, rfl, w2⟩ := DataW.trod_string T.u9 k2
      simp only [List.cons.injEq, and_true] at e0 e1 e2
      subst e0; subst e1; subst e2
      refine ⟨⟨kind, num, s⟩, rfl, ⟨inI_of w0, inI_of w1⟩, ?_, rfl⟩
      simp only [List.map_cons, List.map_nil, Rows.uptoBulk, Rows.uptoBulkAll, wtT]
      have : s.data.toList.length = s.size := by simp
      omega
/-- An atom's weight. -/
def wtA (y : AG) : Nat := y.x.name.size + y.x.args.length + 7
set_option maxRecDepth 100000 in
theorem trod_atom {fuel : Nat} {cs : List Value} {x : DataW H × List MemPlace} (h : DataW.trod enc Tryz.prog w base spare held fuel 26 cs = some x) :
    ∃ y : AG, cs = agC y ∧ RT w y.a y.x.args ∧ wtA y ≤ Rows.uptoBulk x.1 := by
  obtain ⟨xs, n, rfl, rfl, hl, hxs, hf⟩ := DataW.trod_struct T.u26 h
  have hl5 : cs.length = 5 := by rw [hl]; kernel_rfl
  have cT : Program.cellsOf Tryz.prog 23 = 3 := by kernel_rfl
  have cS : Program.cellsOf Tryz.prog 9 = 1 := by kernel_rfl
  have cL : Program.cellsOf Tryz.prog 24 = 1 := by kernel_rfl
  match cs, hl5 with
  | [v0, v1, v2, v3, v4], _ =>
    match xs, hxs with
    | [x0, x1, x2], _ =>
      have k0 : DataW.trod enc Tryz.prog w base spare held n 23 [v0, v1, v2] = some x0 := by
        have k : DataW.trod enc Tryz.prog w base spare held n 23 (List.take (Program.cellsOf Tryz.prog 23) (List.drop 0 [v0, v1, v2, v3, v4])) = some x0 := hf 0 _ rfl
        rw [cT] at k; exact k
      have k1 : DataW.trod enc Tryz.prog w base spare held n 9 [v3] = some x1 := by
        have k : DataW.trod enc Tryz.prog w base spare held n 9 (List.take (Program.cellsOf Tryz.prog 9) (List.drop 3 [v0, v1, v2, v3, v4])) = some x1 := hf 1 _ rfl
        rw [cS] at k; exact k
      have k2 : DataW.trod enc Tryz.prog w base spare held n 24 [v4] = some x2 := by
        have k : DataW.trod enc Tryz.prog w base spare held n 24 (List.take (Program.cellsOf Tryz.prog 24) (List.drop 4 [v0, v1, v2, v3, v4])) = some x2 := hf 2 _ rfl
        rw [cL] at k; exact k
      obtain ⟨t, e0, _, b0, _⟩ := trod_term k0
      obtain ⟨s, e1, rfl, w1⟩ := DataW.trod_string T.u9 k1
      obtain ⟨a, c, ts, e2, ha, hat, _, b2⟩ := trod_listN (default : Tm) T.u24 (by kernel_rfl) tmC tmC_len (fun _ => True) wtT (fun fuel cs x hx => by
        obtain ⟨t, e, _, hb, _⟩ := trod_term hx
        exact ⟨t, e, trivial, hb⟩) k2
      simp only [tmC, List.cons.injEq, and_true] at e0 e1 e2
      obtain ⟨rfl, rfl, rfl⟩ := e0
      subst e1; subst e2
      refine ⟨⟨⟨t, s, ts⟩, a, c⟩, rfl, ⟨ha, hat⟩, ?_⟩
      have h1 := len_wt wtT (k := 1) (fun y => by unfold wtT; omega) ts
      have h2 : s.data.toList.length = s.size := by simp
      unfold wtT at b0
      simp only [List.map_cons, List.map_nil, Rows.uptoBulk, Rows.uptoBulkAll, wtA]
      omega

set_option maxRecDepth 100000 in
theorem trod_atoms {fuel : Nat} {cs : List Value} {x : DataW H × List MemPlace} (h : DataW.trod enc Tryz.prog w base spare held fuel 27 cs = some x) :
    ∃ a c ys, cs = [.slice a ys.length c] ∧ RA w a ys ∧ (ys.map wtA).sum + 1 ≤ Rows.uptoBulk x.1 := by
  obtain ⟨a, c, ys, e, ha, hat, hg, hb⟩ := trod_listN (⟨default, none, 0⟩ : AG) T.u27 (by kernel_rfl) agC agC_len (fun y => RT w y.a y.x.args) wtA (fun fuel cs x hx => by
    obtain ⟨y, e, h1, h2⟩ := trod_atom hx
    exact ⟨y, e, h1, h2⟩) h
  exact ⟨a, c, ys, e, ⟨ha, hat, hg⟩, hb⟩
theorem le_sum {α : Type} (wt : α → Nat) {ys : List α} {y : α} (h : y ∈ ys) : wt y ≤ (ys.map wt).sum := by
  induction ys with
  | nil => cases h
  | cons x ys ih =>
    rw [List.map_cons, List.sum_cons]
    rcases List.mem_cons.1 h with rfl | h
    · omega
    · have := ih h; omega

def T00 : Ts := ⟨0, T0, T0⟩
set_option maxRecDepth 100000 in
theorem trod_test {fuel : Nat} {cs : List Value} {x : DataW H × List MemPlace} (h : DataW.trod enc Tryz.prog w base spare held fuel 45 cs = some x) :
    ∃ t : Ts, cs = tsC t ∧ 1 ≤ Rows.uptoBulk x.1 := by
  obtain ⟨xs, n, rfl, rfl, hl, hxs, hf⟩ := DataW.trod_struct T.u45 h
  have hl7 : cs.length = 7 := by rw [hl]; kernel_rfl
  have cT : Program.cellsOf Tryz.prog 23 = 3 := by kernel_rfl
  have cI : Program.cellsOf Tryz.prog 3 = 1 := by kernel_rfl
  match cs, hl7 with
  | [v0, v1, v2, v3, v4, v5, v6], _ =>
    match xs, hxs with
    | [x0, x1, x2], _ =>
      have k0 : DataW.trod enc Tryz.prog w base spare held n 3 [v0] = some x0 := by
        have k : DataW.trod enc Tryz.prog w base spare held n 3 (List.take (Program.cellsOf Tryz.prog 3) (List.drop 0 [v0, v1, v2, v3, v4, v5, v6])) = some x0 := hf 0 _ rfl
        rw [cI] at k; exact k
      have k1 : DataW.trod enc Tryz.prog w base spare held n 23 [v1, v2, v3] = some x1 := by
        have k : DataW.trod enc Tryz.prog w base spare held n 23 (List.take (Program.cellsOf Tryz.prog 23) (List.drop 1 [v0, v1, v2, v3, v4, v5, v6])) = some x1 := hf 1 _ rfl
        rw [cT] at k; exact k
      have k2 : DataW.trod enc Tryz.prog w base spare held n 23 [v4, v5, v6] = some x2 := by
        have k : DataW.trod enc Tryz.prog w base spare held n 23 (List.take (Program.cellsOf Tryz.prog 23) (List.drop 4 [v0, v1, v2, v3, v4, v5, v6])) = some x2 := hf 2 _ rfl
        rw [cT] at k; exact k
      obtain ⟨op, e0, rfl, w0⟩ := DataW.trod_int T.u3 k0
      obtain ⟨l, e1, _, b1, _⟩ := trod_term k1
      obtain ⟨r, e2, _, b2, _⟩ := trod_term k2
      simp only [tmC, List.cons.injEq, and_true] at e0 e1 e2
      obtain ⟨rfl, rfl, rfl⟩ := e1
      obtain ⟨rfl, rfl, rfl⟩ := e2
      subst e0
      refine ⟨⟨op, l, r⟩, rfl, ?_⟩
      simp only [Rows.uptoBulk]
      omega
theorem trod_tests {fuel : Nat} {cs : List Value} {x : DataW H × List MemPlace} (h : DataW.trod enc Tryz.prog w base spare held fuel 28 cs = some x) :
    ∃ a c ts, cs = [.slice a ts.length c] ∧ RS w a ts ∧ ts.length + 1 ≤ Rows.uptoBulk x.1 := by
  obtain ⟨a, c, ts, e, ha, hat, _, hb⟩ := trod_listN T00 (s := 7) T.u28 (by kernel_rfl) tsC (fun _ => rfl) (fun _ => True) (fun _ => 1) (fun fuel cs x hx => by
    obtain ⟨t, e, h2⟩ := trod_test hx
    exact ⟨t, e, trivial, h2⟩) h
  have h1 := len_wt (fun _ : Ts => 1) (k := 1) (fun _ => Nat.le_refl _) ts
  exact ⟨a, c, ts, e, ⟨ha, hat⟩, by omega⟩
/-- A clause's weight. -/
def wtC (g : CG) : Nat := wtA g.hd + (g.bd.map wtA).sum + g.ts.length + 3
set_option maxRecDepth 100000 in
theorem trod_clause {fuel : Nat} {cs : List Value} {x : DataW H × List MemPlace} (h : DataW.trod enc Tryz.prog w base spare held fuel 30 cs = some x) :
    ∃ g : CG, cs = cgC g ∧ RC w g ∧ wtC g ≤ Rows.uptoBulk x.1 := by
  obtain ⟨xs, n, rfl, rfl, hl, hxs, hf⟩ := DataW.trod_struct T.u30 h
  have hl7 : cs.length = 7 := by rw [hl]; kernel_rfl
  have cA : Program.cellsOf Tryz.prog 26 = 5 := by kernel_rfl
  have cL : Program.cellsOf Tryz.prog 27 = 1 := by kernel_rfl
  have cS : Program.cellsOf Tryz.prog 28 = 1 := by kernel_rfl
  match cs, hl7 with
  | [v0, v1, v2, v3, v4, v5, v6], _ =>
    match xs, hxs with
    | [x0, x1, x2], _ =>
      have k0 : DataW.trod enc Tryz.prog w base spare held n 26 [v0, v1, v2, v3, v4] = some x0 := by
        have k : DataW.trod enc Tryz.prog w base spare held n 26 (List.take (Program.cellsOf Tryz.prog 26) (List.drop 0 [v0, v1, v2, v3, v4, v5, v6])) = some x0 := hf 0 _ rfl
        rw [cA] at k; exact k
      have k1 : DataW.trod enc Tryz.prog w base spare held n 27 [v5] = some x1 := by
        have k : DataW.trod enc Tryz.prog w base spare held n 27 (List.take (Program.cellsOf Tryz.prog 27) (List.drop 5 [v0, v1, v2, v3, v4, v5, v6])) = some x1 := hf 1 _ rfl
        rw [cL] at k; exact k
      have k2 : DataW.trod enc Tryz.prog w base spare held n 28 [v6] = some x2 := by
        have k : DataW.trod enc Tryz.prog w base spare held n 28 (List.take (Program.cellsOf Tryz.prog 28) (List.drop 6 [v0, v1, v2, v3, v4, v5, v6])) = some x2 := hf 2 _ rfl
        rw [cS] at k; exact k
      obtain ⟨y, e0, r0, b0⟩ := trod_atom k0
      obtain ⟨ba, bc, bd, e1, r1, b1⟩ := trod_atoms k1
      obtain ⟨ta, tc, ts, e2, r2, b2⟩ := trod_tests k2
      simp only [agC, atC, List.cons.injEq, and_true] at e0 e1 e2
      obtain ⟨rfl, rfl, rfl, rfl, rfl⟩ := e0
      subst e1; subst e2
      refine ⟨⟨y, ba, bc, bd, ta, tc, ts⟩, rfl, ⟨r0, r1, r2⟩, ?_⟩
      simp only [List.map_cons, List.map_nil, Rows.uptoBulk, Rows.uptoBulkAll, wtC]
      omega
set_option maxRecDepth 100000 in
theorem open_clause {v : Value} {d : DataW H} {p : List MemPlace} (hv : Value.okWide Tryz.prog w r b0 30 v) (h : DataW.Trod enc Tryz.prog w base spare held 30 v d p) :
    ∃ g : CG, v = cgV g ∧ RC w g ∧ wtC g ≤ Rows.uptoBulk d := by
  obtain ⟨fuel, hf⟩ := h
  obtain ⟨g, e, h1, h2⟩ := trod_clause hf
  have ha : ∃ cs, v = .agg cs := by
    unfold Value.okWide at hv
    rw [T.u30] at hv
    cases v <;> simp_all
  obtain ⟨cs, rfl⟩ := ha
  refine ⟨g, ?_, h1, h2⟩
  have e2 : cs.toList = cgC g := e
  show Value.agg cs = Value.agg (cgC g).toArray
  rw [show cs = (cgC g).toArray from by rw [← e2]]
theorem clause_ok {g : CG} (h : wtC g ≤ 1048576) : (∀ y, y = g.hd ∨ y ∈ g.bd → y.x.args.length ≤ 1048576 ∧ y.x.name.size ≤ 1099511627776) ∧ g.bd.length ≤ 1048576 ∧ g.ts.length ≤ 1048576 := by
  unfold wtC at h
  have h1 := len_wt wtA (k := 1) (fun y => by unfold wtA; omega) g.bd
  refine ⟨fun y hy => ?_, by omega, by omega⟩
  have h3 : wtA y = y.x.name.size + y.x.args.length + 7 := rfl
  rcases hy with rfl | hy
  · omega
  · have h2 := le_sum wtA hy
    omega
/-- term.none, as the row lays it. -/
theorem none_laid {fuel : Nat} {cs : Array Value} {q : List MemPlace} (hg : Program.globalNamed Tryz.prog "hearsay/term.none" = some 0) (hv : w.var? Tryz.prog "hearsay/term.none" = some cs) (hd : DataW.trod enc Tryz.prog w base spare held fuel 23 cs.toList = some (Rows.laid_hearsay_term_none, q)) : NoneAt w := by
  obtain ⟨t, e, _, _, ht⟩ := trod_term hd
  have ht0 : t = T0 := by
    simp only [Rows.laid_hearsay_term_none, DataW.agg.injEq, List.cons.injEq, DataW.lit.injEq, Lit.int.injEq, true_and, Lit.string.injEq, and_true] at ht
    obtain ⟨h1, h2, h3⟩ := ht
    obtain ⟨k, n, s⟩ := t
    simp only at h1 h2 h3
    subst h1; subst h2
    have : s = E0 := by
      obtain ⟨⟨l⟩⟩ := s
      have h4 : ([] : List UInt8) = l := h3
      subst h4; rfl
    rw [this]; rfl
  intro j v hj
  rw [World.var?_cell hg hv j, ← Array.getElem?_toList, e, ht0]
  exact hj

/-- clause.checks, as the row lays it. -/
theorem check_held {fuel : Nat} {v : Value} {x : DataW (List UInt8) × List MemPlace} {b : UInt8} {s : List UInt8} {f0 : FuncId} (hone : ((List.range (Tryz.prog).funcs.size).filter fun f => ((Tryz.prog).funcs[f]?).any (·.name.toUTF8.data.toList == b :: s)) = [f0])
    (h : DataW.trod (funcToken Tryz.prog) Tryz.prog w 0 (fun _ => true) true fuel 162 [v] = some x) (hx : x.1 = .agg [.held (b :: s)]) : v = .func (.func f0) #[] #[] := by
  obtain ⟨xs, n, rfl, rfl, hl, hxs, hf⟩ := DataW.trod_struct T.u162 h
  have c1 : Program.cellsOf Tryz.prog 113 = 1 := by kernel_rfl
  match xs, hxs with
  | [x0], _ =>
    have k : DataW.trod (funcToken Tryz.prog) Tryz.prog w 0 (fun _ => true) true n 113 (List.take (Program.cellsOf Tryz.prog 113) (List.drop 0 [v])) = some x0 := hf 0 _ rfl
    rw [c1] at k
    have k1 : DataW.trod (funcToken Tryz.prog) Tryz.prog w 0 (fun _ => true) true n 113 [v] = some x0 := k
    simp only [List.map_cons, List.map_nil, DataW.agg.injEq, List.cons.injEq, and_true] at hx
    obtain ⟨d, q⟩ := x0
    simp only at hx
    subst hx
    exact func_of_trod T.u113 hone k1
set_option maxRecDepth 100000 in
theorem checks_laid {d : DataW Unit} (hd : d.funcsOut = .agg [.agg [.held [104, 101, 97, 114, 115, 97, 121, 47, 99, 108, 97, 117, 115, 101, 46, 116, 111, 111, 76, 111, 110, 103]], .agg [.held [104, 101, 97, 114, 115, 97, 121, 47, 99, 108, 97, 117, 115, 101, 46, 98, 97, 100, 65, 116, 111, 109]], .agg [.held [104, 101, 97, 114, 115, 97, 121, 47, 99, 108, 97, 117, 115, 101, 46, 98, 97, 100, 84, 101, 115, 116]], .agg [.held [104, 101, 97, 114, 115, 97, 121, 47, 99, 108, 97, 117, 115, 101, 46, 111, 112, 101, 110, 72, 101, 97, 100]], .agg [.held [104, 101, 97, 114, 115, 97, 121, 47, 99, 108, 97, 117, 115, 101, 46, 117, 110, 115, 97, 102, 101]], .agg [.held [104, 101, 97, 114, 115, 97, 121, 47, 99, 108, 97, 117, 115, 101, 46, 109, 105, 115, 110, 117, 109, 98, 101, 114, 101, 100]]]) (h : funcsAt Tryz.prog w "hearsay/clause.checks" d) : ChksAt w := by
  obtain ⟨g, t, cs, fuel, p, hg, ht, hv, h⟩ := h
  obtain rfl := Option.some.inj ((show Program.globalNamed Tryz.prog "hearsay/clause.checks" = some 1 by kernel_rfl).symm.trans hg)
  obtain rfl := Option.some.inj ((show ((Tryz.prog).globals[1]?).map (·.type) = some 163 by kernel_rfl).symm.trans ht)
  rw [hd] at h
  obtain ⟨xs, m, rfl, hx, hl, hxl, hf⟩ := DataW.trod_array T.u163 h
  have hl6 : cs.toList.length = 6 := by rw [hl]; kernel_rfl
  have c1 : Program.cellsOf Tryz.prog 162 = 1 := by kernel_rfl
  rw [c1] at hf
  have hvc := World.var?_cell hg hv
  obtain ⟨l⟩ := cs
  simp only at hl6 hf
  match l, hl6, xs, hxl with
  | [v0, v1, v2, v3, v4, v5], _, [x0, x1, x2, x3, x4, x5], _ =>
    simp only [List.map_cons, List.map_nil, Prod.mk.injEq, DataW.agg.injEq, List.cons.injEq, and_true] at hx
    obtain ⟨⟨h0, h1, h2, h3, h4, h5⟩, _⟩ := hx
    obtain rfl := check_held (f0 := 249) (by kernel_rfl) (hf 0 (by omega) : _ = some x0) h0.symm
    obtain rfl := check_held (f0 := 250) (by kernel_rfl) (hf 1 (by omega) : _ = some x1) h1.symm
    obtain rfl := check_held (f0 := 251) (by kernel_rfl) (hf 2 (by omega) : _ = some x2) h2.symm
    obtain rfl := check_held (f0 := 252) (by kernel_rfl) (hf 3 (by omega) : _ = some x3) h3.symm
    obtain rfl := check_held (f0 := 253) (by kernel_rfl) (hf 4 (by omega) : _ = some x4) h4.symm
    obtain rfl := check_held (f0 := 254) (by kernel_rfl) (hf 5 (by omega) : _ = some x5) h5.symm
    intro j v hj
    rw [hvc j, ← Array.getElem?_toList]
    exact hj
end

end Go.Proofs.YtpgpkjbahlmgeaaGreatDoor

set_option maxRecDepth 10000
namespace Go.Proofs.YtpgpkjbahlmgeaaGreatDoor
open Go Go.Hw
set_option linter.unusedSimpArgs false
set_option linter.unusedVariables false
def bL (n : Nat) (p : Nat → Bool) : List Value := (List.range n).map fun i => .bool (p i)
theorem bL_len (n : Nat) (p : Nat → Bool) : (bL n p).length = n := by simp [bL]
theorem bL_get {n i : Nat} {p : Nat → Bool} (h : i < n) : (bL n p)[i]? = some (.bool (p i)) := by
  unfold bL
  rw [List.getElem?_map, List.getElem?_range h]; rfl
theorem bL_congr {n : Nat} {p q : Nat → Bool} (h : ∀ k, k < n → p k = q k) : bL n p = bL n q := by
  unfold bL
  exact List.map_congr_left fun k hk => by rw [h k (List.mem_range.1 hk)]
theorem bL_set {n i : Nat} {p q : Nat → Bool} (h : i < n) (hq : ∀ k, k < n → q k = (p k || decide (k = i))) : (bL n p).set i (.bool true) = bL n q := by
  refine List.ext_getElem? fun k => ?_
  by_cases hk : k < n
  · rw [bL_get hk, List.getElem?_set]
    by_cases h2 : i = k
    · subst h2; rw [if_pos rfl, if_pos (by rw [bL_len]; exact h), hq i h]; simp
    · rw [if_neg h2, bL_get hk, hq k hk, decide_eq_false (fun h3 => h2 h3.symm), Bool.or_false]
  · rw [List.getElem?_eq_none (by rw [List.length_set, bL_len]; omega), List.getElem?_eq_none (by rw [bL_len]; omega)]
theorem bL_zero (n : Nat) : List.replicate n (Value.bool false) = bL n (fun _ => false) := by
  refine List.ext_getElem? fun k => ?_
  by_cases hk : k < n
  · rw [bL_get hk, List.getElem?_replicate, if_pos hk]
  · rw [List.getElem?_eq_none (by simp; omega), List.getElem?_eq_none (by rw [bL_len]; omega)]
/-- The variables that were met. -/
def mtL (V : List Int) : List Value := bL 72 fun n => decide ((n : Int) ∈ V)
theorem mtL_len (V : List Int) : (mtL V).length = 72 := bL_len _ _
structure VT (t : Tm) : Prop where
  k : t.kind = 3 ↔ varB t = true
  n : varB t = true → 0 ≤ t.n ∧ t.n < 72
theorem mtL_get {V : List Int} {n : Int} (h : 0 ≤ n ∧ n < 72) : (mtL V)[n.toNat]? = some (.bool (decide (n ∈ V))) := by
  unfold mtL
  rw [bL_get (by omega), show ((n.toNat : Nat) : Int) = n by omega]
theorem mtL_set {V : List Int} {n : Int} (h : 0 ≤ n ∧ n < 72) : (mtL V).set n.toNat (.bool true) = mtL (V ++ [n]) := by
  unfold mtL
  refine bL_set (by omega) fun k _ => ?_
  rw [Bool.eq_iff_iff, Bool.or_eq_true, decide_eq_true_eq, decide_eq_true_eq, decide_eq_true_eq, List.mem_append, List.mem_singleton]
  exact or_congr Iff.rfl ⟨fun h2 => by omega, fun h2 => by omega⟩
theorem range_at {n i : Nat} {p : Nat → Bool} (hi : i < n) (hp : p i = true) : ((List.range n).filter p)[((List.range i).filter p).length]? = some i := by
  have h1 : List.range n = List.range i ++ (List.range (n - i)).map (i + ·) := by rw [← List.range_add, show i + (n - i) = n by omega]
  obtain ⟨m, hm⟩ : ∃ m, n - i = m + 1 := ⟨n - i - 1, by omega⟩
  rw [h1, List.filter_append, List.getElem?_append_right (Nat.le_refl _), Nat.sub_self, hm, List.range_succ_eq_map, List.map_cons, Nat.add_zero, List.filter_cons_of_pos hp]
  rfl

theorem known_law (t : Tm) (ht : VT t) (V : List Int) (w : World) : Calls Tryz.prog 10 #[tmV t, .agg (mtL V).toArray] w fun e w' => e = .returned (.bool (knB V t)) ∧ Fr0 w w' := by
  refine enterS (args := [tmV t, .agg (mtL V).toArray]) (fun _ => False) Tryz.func10 rfl Tryz.ntmps10 rfl rfl ?_
  refine Csr (WL.box rfl rfl rfl ?_)
  intro b2
  refine WL.box rfl rfl rfl ?_
  intro b3
  refine Za rfl (Nn (Csr (Zv (OV.fieldAddr0 (off := 0) rfl T.u23 rfl) (Zv (OV.load1 (v := .int .i64 t.kind) rfl T.u3 rfl (fun _ hw => (cell_at (hw.it _ (.tail _ (.head _))) (o := 0) rfl).1)) (Zv ((OV.neq rfl rfl).cast (u := .bool (!varB t)) (congrArg (fun b => Value.bool (!b)) (by rw [Bool.eq_iff_iff, decide_eq_true_eq]; exact ht.k))) (Zm rfl ?_))))))
  refine Zp (t := 8) rfl (fun g8 => ?_) (fun g8 => ?_)
  · refine Zs rfl rfl rfl (Zs rfl rfl rfl (Zs rfl rfl rfl (Zs rfl rfl rfl (Zu rfl rfl (Zu rfl rfl (Zu rfl rfl (Zs rfl rfl rfl (Zs rfl rfl rfl (Zu rfl rfl (Zu rfl rfl (Zu rfl rfl (Zu rfl rfl (Zs rfl rfl rfl (Zv (OV.pickT rfl rfl) (Za rfl (Nn (WC.ret ?_)))))))))))))))))
    exact WX.ret1 rfl rfl rfl (fun w' hw => ⟨by unfold knB; rw [show varB t = false by simpa using g8]; rfl, hw.fr⟩)
  refine Zg rfl rfl rfl (Zv (OV.fieldAddr0 (off := 1) rfl T.u23 rfl) (Zg rfl rfl rfl (Zv (OV.load1 (v := .int .i64 t.n) rfl T.u3 rfl (fun _ hw => (cell_at (hw.it _ (.tail _ (.head _))) (o := 1) rfl).1)) (Zg rfl rfl rfl ?_))))
  have hvn := ht.n (by simpa using g8)
  refine Zv ((OV.geq rfl rfl).cast (u := .bool true) (congrArg Value.bool (decide_eq_true (hvn.1)))) (Zg rfl rfl rfl (Zm rfl (WL.known (t := 12) (b := true) rfl (by rfl) ?_)))
  refine Zg rfl rfl rfl (Zv (OV.fieldAddr0 (off := 1) rfl T.u23 rfl) (Zg rfl rfl rfl (Zv (OV.load1 (v := .int .i64 t.n) rfl T.u3 rfl (fun _ hw => (cell_at (hw.it _ (.tail _ (.head _))) (o := 1) rfl).1)) (Zg rfl rfl rfl (Zv ((OV.lss rfl rfl).cast (u := .bool true) (congrArg Value.bool (decide_eq_true (hvn.2)))) (Zg rfl rfl rfl (Zv (OV.pickT rfl rfl) (Zg rfl rfl rfl (Zm rfl (WL.known (t := 17) (b := true) rfl (by rfl) ?_))))))))))
  refine Zg rfl rfl rfl (Zv (OV.fieldAddr0 (off := 1) rfl T.u23 rfl) (Zg rfl rfl rfl (Zv (OV.load1 (v := .int .i64 t.n) rfl T.u3 rfl (fun _ hw => (cell_at (hw.it _ (.tail _ (.head _))) (o := 1) rfl).1)) (Zg rfl rfl rfl (Zv (OV.indexArr1 rfl rfl T.u43 T.z4 hvn) (Zg rfl rfl rfl (Zv (OV.load1 (v := .bool (decide (t.n ∈ V))) rfl T.u4 rfl (fun _ hw => own_cells hw (.head _) _ _ (by rw [Nat.zero_add]; exact mtL_get hvn))) (Zg rfl rfl rfl (Zv (OV.pickT rfl rfl) (Zv (OV.pickF rfl rfl) (Za rfl (Nn (WC.ret ?_)))))))))))))
  exact WX.ret1 rfl rfl rfl (fun w' hw => ⟨by unfold knB; rw [show varB t = true by simpa using g8]; rfl, hw.fr⟩)

theorem columns_law (x : At) (hx : ∀ t ∈ plc x, VT t) (a : Option Addr) (c : Nat) (hxl : x.args.length ≤ 1048576) (V : List Int) (la : Option Addr) (lc : Nat) (w : World) (hr : RT w a x.args) (hl : RI w la (nI (knownL V x)).length (nI (knownL V x))) : Calls Tryz.prog 8 #[atV x a c, .slice la (nI (knownL V x)).length lc, .agg (mtL V).toArray] w fun e w' => e = .returned (.bool true) ∧ Fr0 w w' := by
  refine enterS (args := [atV x a c, .slice la (nI (knownL V x)).length lc, .agg (mtL V).toArray]) (fun _ => False) Tryz.func8 rfl Tryz.ntmps8 rfl rfl ?_
  refine Csr (WL.box rfl rfl rfl ?_)
  intro b3
  refine WL.box rfl rfl rfl ?_
  intro b5
  refine Za rfl (Nn (Csr (Zv (OV.fieldAddr0 (off := 0) rfl T.u26 rfl) (Zv (OV.loadN (cs := tmC x.b) rfl T.u23 rfl T.z23 (fun _ hw j v hj => by rw [add_off]; exact own_part hw (.tail _ (.head _)) (o := 0) (cs' := tmC x.b) rfl j v hj)) (WL.buildSliceA (cs := tmC x.b) T.u24 T.z23 T.zr23 rfl rfl (by omega) (by omega) rfl ?_)))))
  intro b12
  refine WL.weak (S' := Sat0 w (row 23 3 (some ⟨b12, 0, none⟩) 1 1 (tmC x.b) :: own b5 (.cells (mtL V).toArray 43 (0, 0)) :: own b3 (.cells (atC x a c).toArray 26 (0, 0)) :: [])) (fun w' hw => hw.asRow (m := 1) rfl (by decide)) ?_
  refine Zv (OV.fieldAddr0 (off := 4) rfl T.u26 rfl) (Zv (OV.load1 (v := .slice a x.args.length c) rfl T.u24 rfl (fun _ hw => (cell_at (hw.it _ (.tail _ (.tail _ (.head _)))) (o := 4) rfl).1)) (WL.append (news := x.args.flatMap tmC) rfl rfl T.apT (fun _ _ => Src.of_rt hr.nil (fun _ hw => hr.keeps hw.keeps)) (tms_one _) ⟨by omega, by unfold maxLen; omega⟩ rfl ?_))
  intro a15 c15
  refine Za rfl (Nn (Cs ?_))
  have hpl : (plc x).length = x.args.length + 1 := by simp [plc]
  have el : 1 + x.args.length = (plc x).length := by omega
  have ef : tmC x.b ++ x.args.flatMap tmC = (plc x).flatMap tmC := rfl
  rw [el, ef]
  refine WC.know (fun w' hw => (show ∃ b, a15 = some ⟨b, 0, none⟩ from row_addrK (hw.it (rowT a15 c15 (plc x)) (.head _)) (by simp [plc]))) (fun hq => ?_)
  obtain ⟨pb, rfl⟩ := hq
  clear el ef
  refine Cr (Za rfl (Nn (Cs (Csr (Za rfl (Nn (Cb ?_)))))))
  refine WC.loop1 (fun (i : Nat) => [(1, .slice la (nI (knownL V x)).length lc), (5, .pointer (some ⟨b5, 0, none⟩)), (7, .slice (some ⟨pb, 0, none⟩) (plc x).length c15), (8, .int .i64 ((((List.range i).filter (fun i => knB V ((plc x).getD i T0))).length : Nat) : Int)), (9, .int .i64 (i : Int))])
      (fun i w' => i ≤ (plc x).length ∧ Sat0 w (rowT (some ⟨pb, 0, none⟩) c15 (plc x) :: own b5 (.cells (mtL V).toArray 43 (0, 0)) :: own b3 (.cells (atC x a c).toArray 26 (0, 0)) :: []) w')
      (fun i => (plc x).length - i) 0 ⟨rfl, rfl, rfl, rfl, rfl, trivial⟩ (fun w' hw => ⟨by omega, hw⟩) ?_
  intro i
  refine WC.pure (fun hi => ?_)
  refine Cs (Csr (Zm rfl (Zm rfl (Zv (OV.lenSlice rfl T.u24) (Zv (OV.lss rfl rfl) (Nn ?_))))))
  refine Cc rfl (fun c19 => ?_) (fun c19 => ?_)
  · refine Ck (Xn (Cs (Cb (Cs (Cs (Hq [5] (m := 7) rfl ?_))))))
    refine Hf 0 rfl (OV.move rfl) (Hf 1 rfl (OV.move rfl) ?_)
    obtain ⟨t, ht⟩ : ∃ t, (plc x)[i]? = some t := ⟨_, List.getElem?_eq_getElem (by omega)⟩
    have htd : (plc x).getD i T0 = t := by rw [List.getD_eq_getElem?_getD, ht]; rfl
    have hvt : VT t := hx t (List.mem_of_getElem? ht)
    refine Hf 2 rfl ((OV.indexSlice rfl rfl T.u24 T.z23 (by omega)).cast (u := .pointer (some ((⟨pb, 0, none⟩ : Addr).add (i * 3)))) (by rw [Int.toNat_natCast])) (Ht 3 rfl (OV.loadN (cs := tmC t) rfl T.u23 rfl T.z23 (fun _ hw j v hj => (RT.of_row (c := c15) rfl hw (.head _) : RT _ (some ⟨pb, 0, none⟩) (plc x)).at_ _ rfl i t ht j v hj)) (Ht 4 rfl (OV.loadN (cs := mtL V) rfl T.u43 rfl T.z43 (fun _ hw j v hj => by rw [add_off, Nat.zero_add]; exact own_cells hw (.tail _ (.head _)) j v hj)) (Ho 5 rfl (fl' := true) rfl ?_)))
    refine WL.call0 (v := .bool (knB V t)) (vs := [tmV t, .agg (mtL V).toArray]) (by kernel_rfl) rfl rfl (fun w' hw' => known_law t hvt V w') ?_
    refine Hc (fun h => by cases h) ?_
    refine Hf 6 rfl (OV.not rfl) (He (Xn ?_))
    refine Cc rfl (fun c28 => ?_) (fun c28 => ?_)
    · refine Ce (Xe (Xh (Xn (Cr (Zm rfl (Zv (OV.addN (j := 1) rfl rfl (by omega)) (Za rfl (Nl ?_))))))))
      have hF : (fun i => knB V ((plc x).getD i T0)) i = false := by
        show knB V ((plc x).getD i T0) = false
        rw [htd]; simpa using c28
      have ek : ((List.range (i + 1)).filter (fun i => knB V ((plc x).getD i T0))).length = ((List.range i).filter (fun i => knB V ((plc x).getD i T0))).length := by rw [range_snoc, if_neg (fun h => Bool.noConfusion (hF.symm.trans h)), List.append_nil]
      exact WX.round1 (i + 1) ⟨rfl, rfl, rfl, by rw [ek]; rfl, rfl, trivial⟩ (fun w' hw => ⟨by omega, hw⟩) (by show (plc x).length - (i + 1) < (plc x).length - i; omega)
    refine Ck (Xn (Cs (Cs ?_)))
    have hF : (fun i => knB V ((plc x).getD i T0)) i = true := by
      show knB V ((plc x).getD i T0) = true
      rw [htd]; simpa using c28
    have hli0 := range_at (n := (plc x).length) (p := (fun i => knB V ((plc x).getD i T0))) (by omega) hF
    have hli : (nI (knownL V x))[((List.range i).filter (fun i => knB V ((plc x).getD i T0))).length]? = some (i : Int) := by
      show (((List.range (plc x).length).filter (fun i => knB V ((plc x).getD i T0))).map fun n : Nat => (n : Int))[_]? = _
      rw [List.getElem?_map, hli0]; rfl
    have hkl : ((List.range i).filter (fun i => knB V ((plc x).getD i T0))).length < (nI (knownL V x)).length := (List.getElem?_eq_some_iff.1 hli).1
    refine Cr (Zm rfl (Zm rfl (Zv (OV.lenSlice rfl T.u32) (Zv ((OV.geq rfl rfl).cast (u := .bool false) (congrArg Value.bool (decide_eq_false (by omega)))) (Zm rfl (WL.known (t := 33) (b := false) rfl (by rfl) ?_))))))
    refine Zg rfl rfl rfl (Zm rfl (Zg rfl rfl rfl (Zm rfl (Zg rfl rfl rfl ?_))))
    obtain ⟨q, hq⟩ := hl.some (by omega)
    have hl2 : RI w (some q) (nI (knownL V x)).length (nI (knownL V x)) := by rw [← hq]; exact hl
    refine Zv ((OV.indexSlice (show _ = some (Value.slice (some q) (nI (knownL V x)).length lc) by rw [← hq]; rfl) rfl T.u32 T.z3 (by omega)).cast (u := .pointer (some (q.add ((List.range i).filter (fun i => knB V ((plc x).getD i T0))).length))) (by rw [Int.toNat_natCast, Nat.mul_one])) (Zg rfl rfl rfl (Zv (OV.load1 (v := .int .i64 (i : Int)) rfl T.u3 rfl (fun _ hw => hw.keeps _ _ (ri_at hl2 hli))) (Zg rfl rfl rfl (Zm rfl (Zg rfl rfl rfl (Zv ((OV.neq rfl rfl).cast (u := .bool false) (by simp)) (Zv (OV.pickF rfl rfl) (Nn (WC.condF (show _ = some (Value.bool false) from by rfl) ?_)))))))))
    refine Ck (Xn (Cr (Zm rfl ?_)))
    have hkm := range_f_len (fun i => knB V ((plc x).getD i T0)) i
    refine Zv (OV.addN (j := 1) rfl rfl (by omega)) (Za rfl (Nl (Xb (Xn (Cr (Zm rfl (Zv (OV.addN (j := 1) rfl rfl (by omega)) (Za rfl (Nl ?_)))))))))
    have ek : ((List.range (i + 1)).filter (fun i => knB V ((plc x).getD i T0))).length = ((List.range i).filter (fun i => knB V ((plc x).getD i T0))).length + 1 := by rw [range_snoc, if_pos hF, List.length_append]; rfl
    exact WX.round1 (i + 1) ⟨rfl, rfl, rfl, by rw [ek]; rfl, rfl, trivial⟩ (fun w' hw => ⟨by omega, hw⟩) (by show (plc x).length - (i + 1) < (plc x).length - i; omega)
  refine Ce (Xe (Xe (Xh (Xn (Csr (Zm rfl (Zm rfl (Zv (OV.lenSlice rfl T.u32) (Zv (OV.eql rfl rfl) (Za rfl (Nn (WC.ret ?_))))))))))))
  obtain rfl : i = (plc x).length := by omega
  exact WX.ret1 rfl rfl rfl (fun w' hw => ⟨by
    rw [decide_eq_true]
    rw [show (nI (knownL V x)).length = ((List.range (plc x).length).filter (fun i => knB V ((plc x).getD i T0))).length from List.length_map _], hw.fr⟩)

theorem meet_law (x : At) (hx : ∀ t ∈ plc x, VT t) (a : Option Addr) (c : Nat) (hxl : x.args.length ≤ 1048576) (V : List Int) (q : Nat) (w : World) (hr : RT w a x.args) (hne : ∀ p, a = some p → 0 < x.args.length → p.block ≠ q) (hA : Holds [own q (.cells (mtL V).toArray 43 (0, 0))] w) : Calls Tryz.prog 9 #[atV x a c, ptr q] w fun e w' => e = .returned (.tuple #[]) ∧ Turns [own q (.cells (mtL V).toArray 43 (0, 0))] [own q (.cells (mtL (V ++ varsOf x)).toArray 43 (0, 0))] w w' := by
  refine enterA hA (args := [atV x a c, ptr q]) Tryz.func9 rfl Tryz.ntmps9 rfl rfl ?_
  refine Csr (WL.box rfl rfl rfl ?_)
  intro b2
  refine Nn (Csr (Zv (OV.fieldAddr0 (off := 0) rfl T.u26 rfl) (Zv (OV.loadN (cs := tmC x.b) rfl T.u23 rfl T.z23 (fun _ hw j v hj => by rw [add_off]; exact own_part hw (.head _) (o := 0) (cs' := tmC x.b) rfl j v hj)) (WL.buildSliceA (cs := tmC x.b) T.u24 T.z23 T.zr23 rfl rfl (by omega) (by omega) rfl ?_))))
  intro b8
  refine WL.weak (S' := SatA w [own q (.cells (mtL V).toArray 43 (0, 0))] (row 23 3 (some ⟨b8, 0, none⟩) 1 1 (tmC x.b) :: own b2 (.cells (atC x a c).toArray 26 (0, 0)) :: own q (.cells (mtL V).toArray 43 (0, 0)) :: [])) (fun w' hw => hw.asRow (m := 1) rfl (by decide)) ?_
  refine Zv (OV.fieldAddr0 (off := 4) rfl T.u26 rfl) (Zv (OV.load1 (v := .slice a x.args.length c) rfl T.u24 rfl (fun _ hw => (cell_at (hw.it _ (.tail _ (.head _))) (o := 4) rfl).1)) ?_)
  have hne2 : ∀ p, a = some p → 0 < x.args.length → ¬ DD [own q (.cells (mtL V).toArray 43 (0, 0))] p.block := fun p hp hl ⟨i, hi, hb⟩ => by
    simp only [List.mem_singleton] at hi
    subst hi
    exact hne p hp hl hb
  refine WL.append (news := x.args.flatMap tmC) rfl rfl T.apT (fun _ _ => Src.of_rt hr.nil (fun _ hw => hr.satA hne2 hw)) (tms_one _) ⟨by omega, by unfold maxLen; omega⟩ rfl ?_
  intro a11 c11
  refine Za rfl (Nn (Cs ?_))
  have hpl : (plc x).length = x.args.length + 1 := by simp [plc]
  have el : 1 + x.args.length = (plc x).length := by omega
  have ef : tmC x.b ++ x.args.flatMap tmC = (plc x).flatMap tmC := rfl
  rw [el, ef]
  refine WC.know (fun w' hw => (show ∃ b, a11 = some ⟨b, 0, none⟩ from row_addrK (hw.it (rowT a11 c11 (plc x)) (.head _)) (by simp [plc]))) (fun hq => ?_)
  obtain ⟨pb, rfl⟩ := hq
  clear el ef
  refine Cr (Za rfl (Nn (Cb ?_)))
  refine WC.loop1 (fun (i : Nat) => [(1, ptr q), (4, .slice (some ⟨pb, 0, none⟩) (plc x).length c11), (5, .int .i64 (i : Int))])
      (fun i w' => i ≤ (plc x).length ∧ SatA w [own q (.cells (mtL V).toArray 43 (0, 0))] (rowT (some ⟨pb, 0, none⟩) c11 (plc x) :: own b2 (.cells (atC x a c).toArray 26 (0, 0)) :: own q (.cells (mtL (V ++ vnums ((plc x).take i))).toArray 43 (0, 0)) :: []) w')
      (fun i => (plc x).length - i) 0 ⟨rfl, rfl, rfl, trivial⟩ (fun w' hw => ⟨by omega, by
        rw [List.take_zero, show V ++ vnums [] = V from List.append_nil V]; exact hw⟩) ?_
  intro i
  refine WC.pure (fun hi => ?_)
  refine Cs (Csr (Zm rfl (Zm rfl (Zv (OV.lenSlice rfl T.u24) (Zv (OV.lss rfl rfl) (Nn ?_))))))
  refine Cc rfl (fun c15 => ?_) (fun c15 => ?_)
  · refine Ck (Xn (Cs (Cb (Csr (Zm rfl (Zm rfl ?_))))))
    obtain ⟨t, ht⟩ : ∃ t, (plc x)[i]? = some t := ⟨_, List.getElem?_eq_getElem (by omega)⟩
    have htd : (plc x).getD i T0 = t := by rw [List.getD_eq_getElem?_getD, ht]; rfl
    have hvt : VT t := hx t (List.mem_of_getElem? ht)
    refine Zv ((OV.indexSlice rfl rfl T.u24 T.z23 (by omega)).cast (u := .pointer (some ((⟨pb, 0, none⟩ : Addr).add (i * 3)))) (by rw [Int.toNat_natCast])) (Zv ((OV.fieldAddrA (off := 0) rfl T.u23 rfl).cast (u := .pointer (some ((⟨pb, 0, none⟩ : Addr).add (i * 3)))) (by rw [addr_add0])) (Zv (OV.load1 (v := .int .i64 t.kind) rfl T.u3 rfl (fun _ hw => by have h := (RT.of_row (c := c11) rfl hw (.head _) : RT _ (some ⟨pb, 0, none⟩) (plc x)).at_ _ rfl i t ht 0 _ rfl; rwa [addr_add0] at h)) (Zv ((OV.eql rfl rfl).cast (u := .bool (varB t)) (congrArg Value.bool (by rw [Bool.eq_iff_iff, decide_eq_true_eq]; exact hvt.k))) (Zm rfl ?_))))
    refine Zp (t := 24) rfl (fun g24 => ?_) (fun g24 => ?_)
    · refine Zg rfl rfl rfl (Zm rfl (Zg rfl rfl rfl (Zm rfl (Zg rfl rfl rfl (Zv ((OV.indexSlice rfl rfl T.u24 T.z23 (by omega)).cast (u := .pointer (some ((⟨pb, 0, none⟩ : Addr).add (i * 3)))) (by rw [Int.toNat_natCast])) (Zg rfl rfl rfl (Zv ((OV.fieldAddrA (off := 1) rfl T.u23 rfl).cast (u := .pointer (some (((⟨pb, 0, none⟩ : Addr).add (i * 3)).add 1))) (rfl)) (Zg rfl rfl rfl (Zv (OV.load1 (v := .int .i64 t.n) rfl T.u3 rfl (fun _ hw => by have h := (RT.of_row (c := c11) rfl hw (.head _) : RT _ (some ⟨pb, 0, none⟩) (plc x)).at_ _ rfl i t ht 1 _ rfl; exact h)) (Zg rfl rfl rfl ?_))))))))))
      have hvn := hvt.n g24
      refine Zv ((OV.geq rfl rfl).cast (u := .bool true) (congrArg Value.bool (decide_eq_true (hvn.1)))) (Zv (OV.pickT rfl rfl) (Zm rfl (WL.known (t := 32) (b := true) rfl (by rfl) ?_)))
      refine Zg rfl rfl rfl (Zm rfl (Zg rfl rfl rfl (Zm rfl (Zg rfl rfl rfl (Zv ((OV.indexSlice rfl rfl T.u24 T.z23 (by omega)).cast (u := .pointer (some ((⟨pb, 0, none⟩ : Addr).add (i * 3)))) (by rw [Int.toNat_natCast])) (Zg rfl rfl rfl (Zv ((OV.fieldAddrA (off := 1) rfl T.u23 rfl).cast (u := .pointer (some (((⟨pb, 0, none⟩ : Addr).add (i * 3)).add 1))) (rfl)) (Zg rfl rfl rfl (Zv (OV.load1 (v := .int .i64 t.n) rfl T.u3 rfl (fun _ hw => by have h := (RT.of_row (c := c11) rfl hw (.head _) : RT _ (some ⟨pb, 0, none⟩) (plc x)).at_ _ rfl i t ht 1 _ rfl; exact h)) (Zg rfl rfl rfl (Zv ((OV.lss rfl rfl).cast (u := .bool true) (congrArg Value.bool (decide_eq_true (hvn.2)))) (Zv (OV.pickT rfl rfl) (Nn (WC.condT (show _ = some (Value.bool true) from by rfl) ?_))))))))))))))
      refine Hq [8] (m := 9) rfl ?_
      refine Hf 0 rfl (OV.move rfl) (Hf 1 rfl (OV.move rfl) (Hf 2 rfl (OV.move rfl) (Hf 3 rfl ((OV.indexSlice rfl rfl T.u24 T.z23 (by omega)).cast (u := .pointer (some ((⟨pb, 0, none⟩ : Addr).add (i * 3)))) (by rw [Int.toNat_natCast])) (Hf 4 rfl ((OV.fieldAddrA (off := 1) rfl T.u23 rfl).cast (u := .pointer (some (((⟨pb, 0, none⟩ : Addr).add (i * 3)).add 1))) (rfl)) (Ht 5 rfl (OV.load1 (v := .int .i64 t.n) rfl T.u3 rfl (fun _ hw => by have h := (RT.of_row (c := c11) rfl hw (.head _) : RT _ (some ⟨pb, 0, none⟩) (plc x)).at_ _ rfl i t ht 1 _ rfl; exact h)) (Hf 6 rfl (OV.nilCheck rfl) (Hf 7 rfl ((OV.indexArr1 rfl rfl T.u43 T.z4 hvn).cast (u := .pointer (some ⟨q, t.n.toNat, none⟩)) (by rw [Nat.zero_add])) (Ho 8 rfl (fl' := true) rfl ?_))))))))
      refine WL.focus perm2 (WL.store1 (o := t.n.toNat) rfl rfl rfl T.z4 (by rw [mtL_len]; omega) ?_)
      refine Hc (fun h => by cases h) ?_
      refine He (Xb (Xn (Cr (Zm rfl (Zv (OV.addN (j := 1) rfl rfl (by omega)) (Za rfl (Nl ?_)))))))
      have em : (mtL (V ++ vnums ((plc x).take i))).set t.n.toNat (.bool true) = mtL (V ++ vnums ((plc x).take (i + 1))) := by
        rw [mtL_set hvn, tk_snoc ht, vnums_snoc, if_pos g24, List.append_assoc]
      rw [em]
      exact WX.round1 (i + 1) ⟨rfl, rfl, rfl, trivial⟩ (fun w' hw => ⟨by omega, hw.perm (perm_pick [_, _, _] [1, 2, 0] (by decide) rfl)⟩) (by show (plc x).length - (i + 1) < (plc x).length - i; omega)
    refine Zs rfl rfl rfl (Zs rfl rfl rfl (Zs rfl rfl rfl (Zs rfl rfl rfl (Zs rfl rfl rfl (Zs rfl rfl rfl (Zv (OV.pickF rfl rfl) (Zm rfl (Zs rfl rfl rfl (Zs rfl rfl rfl (Zs rfl rfl rfl (Zs rfl rfl rfl (Zs rfl rfl rfl (Zs rfl rfl rfl (Zv (OV.pickF rfl rfl) (Nn (WC.condF (show _ = some (Value.bool false) from by rfl) ?_))))))))))))))))
    refine Ck (Xb (Xn (Cr (Zm rfl (Zv (OV.addN (j := 1) rfl rfl (by omega)) (Za rfl (Nl ?_)))))))
    have em : mtL (V ++ vnums ((plc x).take i)) = mtL (V ++ vnums ((plc x).take (i + 1))) := by
      rw [tk_snoc ht, vnums_snoc, if_neg (by rw [g24]; simp), List.append_nil]
    rw [em]
    exact WX.round1 (i + 1) ⟨rfl, rfl, rfl, trivial⟩ (fun w' hw => ⟨by omega, hw⟩) (by show (plc x).length - (i + 1) < (plc x).length - i; omega)
  refine Ce (Xe (Xe (Xh ?_)))
  rw [List.take_of_length_le (by omega)]
  exact WX.ret0 rfl rfl (fun w' hw => ⟨rfl, (hw.pick [[rowT (some ⟨pb, 0, none⟩) c11 (plc x)], [own b2 (.cells (atC x a c).toArray 26 (0, 0))], [own q (.cells (mtL (V ++ varsOf x)).toArray 43 (0, 0))]] [2] 3 rfl (by decide) (by decide)).turned⟩)

end Go.Proofs.YtpgpkjbahlmgeaaGreatDoor

set_option maxRecDepth 10000
namespace Go.Proofs.YtpgpkjbahlmgeaaGreatDoor
open Go Go.Hw
set_option linter.unusedSimpArgs false
set_option linter.unusedVariables false
theorem nodup_sub {l m : List Tm} (h : l.Nodup) (hs : ∀ x ∈ l, x ∈ m) : l.length ≤ m.length := by
  induction l generalizing m with
  | nil => exact Nat.zero_le _
  | cons x l ih =>
    obtain ⟨h1, h2⟩ := List.nodup_cons.1 h
    have h3 := ih (m := m.erase x) h2 fun y hy => (List.mem_erase_of_ne (fun e : y = x => h1 (by rw [← e]; exact hy))).2 (hs y (.tail _ hy))
    have h4 := List.length_erase_of_mem (hs x (.head _))
    have h5 : 0 < m.length := List.length_pos_of_mem (hs x (.head _))
    simp only [List.length_cons]
    omega
theorem plc_length (x : At) : (plc x).length = x.args.length + 1 := by simp [plc]
theorem bodyTm_le {c : Cl} (h : ∀ a ∈ c.bd, a.args.length ≤ 8) : (bodyTm c).length ≤ 9 * c.bd.length := by
  unfold bodyTm
  generalize c.bd = l at h
  induction l with
  | nil => simp
  | cons a l ih =>
    have h1 := ih fun b hb => h b (.tail _ hb)
    have h2 := h a (.head _)
    simp only [List.flatMap_cons, List.length_append, List.length_cons, plc_length]
    omega
theorem VC.args {c : Cl} (h : VC c) {a : At} (ha : a ∈ c.bd) : a.args.length ≤ 8 := (chkA_zero.1 (h.bd a ha)).2.1
theorem VC.body72 {c : Cl} (h : VC c) : (bodyTm c).length ≤ 72 := by
  have h1 := bodyTm_le fun a ha => h.args ha
  have := h.bl
  omega
theorem VC.nV72 {c : Cl} (h : VC c) : nV c ≤ 72 := by
  refine Nat.le_trans (nodup_sub (m := bodyTm c) (dedV_nodup _) fun t ht => ?_) h.body72
  have h2 := (dedV_mem _ _).1 ht
  have h3 := h2.1
  unfold termsC at h3
  simp only [List.mem_append] at h3
  rcases h3 with hh | hh | hh
  · exact h.safe _ (by simp [hh]) h2.2
  · exact hh
  · exact h.safe _ (by simp [hh]) h2.2
theorem var_kind {t : Tm} (h : varB t = true) : t.kind = 3 := by
  unfold varB at h
  simp only [Bool.and_eq_true, decide_eq_true_eq] at h
  exact h.1.1
theorem const_kind {t : Tm} (h : constB t = true) : t.kind ≠ 3 := by
  unfold constB at h
  intro h3
  rw [h3] at h
  simp at h
theorem vt_kind {t : Tm} (h : t = T0 ∨ prinB t = true ∨ varB t = true ∨ badB t = false) : t.kind = 3 ↔ varB t = true := by
  refine ⟨fun h3 => ?_, var_kind⟩
  rcases h with rfl | h | h | h
  · exact absurd h3 (by decide)
  · unfold prinB at h
    simp only [Bool.and_eq_true] at h
    exact absurd h3 (const_kind h.1.1)
  · exact h
  · unfold badB at h
    rw [Bool.and_eq_false_iff] at h
    rcases h with h | h
    · exact absurd h3 (const_kind (by simpa using h))
    · simpa using h
theorem chk_vt {x : At} (h : chkA x = 0) : ∀ t ∈ plc x, t.kind = 3 ↔ varB t = true := fun t ht => by
  obtain ⟨_, _, h3, h4⟩ := chkA_zero.1 h
  rcases List.mem_cons.1 ht with rfl | ht
  · rcases h3 with h3 | h3 | h3
    · exact vt_kind (Or.inl h3)
    · exact vt_kind (Or.inr (Or.inl h3))
    · exact vt_kind (Or.inr (Or.inr (Or.inl h3)))
  · exact vt_kind (Or.inr (Or.inr (Or.inr (h4 t ht))))
theorem VC.vt {c : Cl} (h : VC c) : ∀ t ∈ termsC c, VT t := fun t ht => by
  refine ⟨?_, fun hv => ?_⟩
  · unfold termsC at ht
    simp only [List.mem_append] at ht
    rcases ht with ht | ht | ht
    · exact chk_vt h.hd t ht
    · obtain ⟨a, ha, hm⟩ := mem_bodyTm.1 ht
      exact chk_vt (h.bd a ha) t hm
    · obtain ⟨u, hu, hm⟩ := mem_testTm.1 ht
      obtain ⟨_, h1, h2⟩ := tst_bad (h.ts u hu)
      unfold plT at hm
      simp only [List.mem_cons, List.not_mem_nil, or_false] at hm
      rcases hm with rfl | rfl
      · exact vt_kind (Or.inr (Or.inr (Or.inr h1)))
      · exact vt_kind (Or.inr (Or.inr (Or.inr h2)))
  · obtain ⟨i, hi⟩ := List.mem_iff_getElem?.1 ((dedV_mem _ t).2 ⟨ht, hv⟩)
    have h1 := h.num i t hi
    have h2 := (List.getElem?_eq_some_iff.1 hi).1
    have h3 := h.nV72
    unfold nV at h3
    omega
theorem VC.vtB {c : Cl} (h : VC c) {a : At} (ha : a ∈ c.bd) : ∀ t ∈ plc a, VT t := fun t ht => h.vt t (by
  unfold termsC
  simp only [List.mem_append]
  exact Or.inr (Or.inl (mem_bodyTm.2 ⟨a, ha, ht⟩)))
theorem VC.vtT {c : Cl} (h : VC c) {u : Ts} (hu : u ∈ c.ts) : VT u.l ∧ VT u.r := by
  have h1 : ∀ t ∈ plT u, VT t := fun t ht => h.vt t (by
    unfold termsC
    simp only [List.mem_append]
    exact Or.inr (Or.inr (mem_testTm.2 ⟨u, hu, ht⟩)))
  exact ⟨h1 _ (by simp [plT]), h1 _ (by simp [plT])⟩
theorem VC.cs {g : CG} (h : VC g.cl) : CS g where
  at_ := fun y hy => by
    have h1 : chkA y.x = 0 := by
      rcases hy with rfl | hy
      · exact h.hd
      · exact h.bd _ (List.mem_map.2 ⟨y, hy, rfl⟩)
    obtain ⟨hn, hl, _⟩ := chkA_zero.1 h1
    refine ⟨by omega, ?_⟩
    unfold nameB at hn
    rw [decide_eq_true_eq] at hn
    have := hn.2.1
    omega
  bl := by have h1 := h.bl; rw [show g.cl.bd.length = g.bd.length from List.length_map _] at h1; omega
  tl := by have h1 := h.tl; have : g.ts.length ≤ 8 := h1; omega
  tt := by
    rw [termsC_len]
    have h0 := plc_length g.cl.hd
    have h1 := h.body72
    have h2 := (chkA_zero.1 h.hd).2.1
    have h3 := h.tl
    omega
/-! ### The plan, step by step -/
theorem pick1_ok {c : Cl} {lead : Option Nat} (hlead : ∀ l, lead = some l → l < c.bd.length) {jo : List Nat} {V : List Int} (hn : jo.Nodup) (hb : ∀ i ∈ jo, i < c.bd.length) (hl : jo.length < c.bd.length) : pick1 c lead jo V ∉ jo ∧ pick1 c lead jo V < c.bd.length := by
  obtain ⟨y, h1, h2, h3⟩ := next_ok (V := V) hn hb hl
  unfold pick1
  split
  · rename_i h
    obtain ⟨l, hl2⟩ := Option.isSome_iff_exists.1 h.2
    rw [h.1, hl2]
    exact ⟨by simp, hlead l hl2⟩
  · rw [h1]; exact ⟨h2, h3⟩
structure St where
  jo : List Nat
  V : List Int
  A : List Nat
def stN (c : Cl) (lead : Option Nat) (s : St) : Jn :=
  ⟨pick1 c lead s.jo s.V, knownL s.V (clA c (pick1 c lead s.jo s.V)), testsP c (s.V ++ varsOf (clA c (pick1 c lead s.jo s.V))) s.A⟩
def stS (c : Cl) (lead : Option Nat) (s : St) : St := ⟨s.jo ++ [(stN c lead s).a], s.V ++ varsOf (clA c (stN c lead s).a), s.A ++ (stN c lead s).ts⟩
def stP (c : Cl) (lead : Option Nat) : Nat → St
  | 0 => ⟨[], [], aheadP c⟩
  | i + 1 => stS c lead (stP c lead i)
structure StOK (c : Cl) (s : St) (i : Nat) : Prop where
  len : s.jo.length = i
  nd : s.jo.Nodup
  jb : ∀ k ∈ s.jo, k < c.bd.length
  hV : ∀ v, v ∈ s.V ↔ ∃ k ∈ s.jo, v ∈ varsOf (clA c k)
  hA : ∀ k, k < c.ts.length → (readyB s.V (clT c k) = true ↔ k ∈ s.A)
theorem stP_ok {c : Cl} {lead : Option Nat} (hlead : ∀ l, lead = some l → l < c.bd.length) : ∀ i, i ≤ c.bd.length → StOK c (stP c lead i) i
  | 0, _ => ⟨rfl, List.nodup_nil, by simp [stP], fun v => by simp [stP], fun k hk => by
      show _ ↔ k ∈ aheadP c
      rw [mem_aheadP, ready_iff]
      constructor
      · intro h
        refine ⟨hk, List.eq_nil_iff_forall_not_mem.2 fun v hv => ?_⟩
        have := h v hv
        simp [stP] at this
      · rintro ⟨_, h⟩ v hv
        rw [h] at hv; cases hv⟩
  | i + 1, hi => by
    have ih := stP_ok hlead i (by omega)
    obtain ⟨h1, h2⟩ := pick1_ok (V := (stP c lead i).V) hlead ih.nd ih.jb (by rw [ih.len]; omega)
    refine ⟨?_, ?_, ?_, fun v => ?_, fun k hk => ?_⟩
    · show ((stP c lead i).jo ++ [_]).length = i + 1
      rw [List.length_append, ih.len]; rfl
    · show ((stP c lead i).jo ++ [_]).Nodup
      exact List.nodup_append.2 ⟨ih.nd, by simp, fun x hx z hz => by simp only [List.mem_singleton] at hz; subst hz; rintro rfl; exact h1 hx⟩
    · intro k hk
      rcases List.mem_append.1 (show k ∈ (stP c lead i).jo ++ [_] from hk) with h | h
      · exact ih.jb k h
      · simp only [List.mem_singleton] at h; rw [h]; exact h2
    · show v ∈ (stP c lead i).V ++ _ ↔ ∃ k ∈ (stP c lead i).jo ++ [_], _
      rw [List.mem_append, ih.hV]
      constructor
      · rintro (⟨k, hk, hv⟩ | hv)
        · exact ⟨k, by simp [hk], hv⟩
        · exact ⟨_, by simp, hv⟩
      · rintro ⟨k, hk, hv⟩
        rcases List.mem_append.1 hk with h | h
        · exact Or.inl ⟨k, h, hv⟩
        · simp only [List.mem_singleton] at h; rw [h] at hv; exact Or.inr hv
    · have hmono : readyB (stP c lead i).V (clT c k) = true → readyB (stP c lead (i + 1)).V (clT c k) = true := fun h => by
        rw [ready_iff] at h ⊢
        exact fun v hv => List.mem_append_left _ (h v hv)
      show _ ↔ k ∈ (stP c lead i).A ++ (stN c lead (stP c lead i)).ts
      rw [List.mem_append]
      constructor
      · intro h
        by_cases hm : k ∈ (stP c lead i).A
        · exact Or.inl hm
        · exact Or.inr (List.mem_filter.2 ⟨List.mem_range.2 hk, by rw [Bool.and_eq_true, decide_eq_true_eq]; exact ⟨h, hm⟩⟩)
      · rintro (h | h)
        · exact hmono ((ih.hA k hk).2 h)
        · have h3 := (List.mem_filter.1 h).2
          rw [Bool.and_eq_true] at h3
          exact h3.1
theorem mkR_st {c : Cl} {lead : Option Nat} : ∀ (n : Nat) (s : St), mkR c lead (n + 1) s.jo s.V s.A = stN c lead s :: mkR c lead n (stS c lead s).jo (stS c lead s).V (stS c lead s).A := fun _ _ => rfl
theorem makeP_drop {c : Cl} {lead : Option Nat} : ∀ i, i ≤ c.bd.length → (makeP c lead).drop i = mkR c lead (c.bd.length - i) (stP c lead i).jo (stP c lead i).V (stP c lead i).A
  | 0, _ => rfl
  | i + 1, hi => by
    have ih := makeP_drop (c := c) (lead := lead) i (by omega)
    have h1 : (makeP c lead).drop (i + 1) = ((makeP c lead).drop i).drop 1 := by rw [List.drop_drop]
    rw [h1, ih, show c.bd.length - i = (c.bd.length - (i + 1)) + 1 by omega, mkR_st]
    rfl
theorem makeP_at {c : Cl} {lead : Option Nat} {i : Nat} (hi : i < c.bd.length) : (makeP c lead)[i]? = some (stN c lead (stP c lead i)) := by
  have h1 := makeP_drop (c := c) (lead := lead) i (by omega)
  have h2 : ((makeP c lead).drop i)[0]? = (makeP c lead)[i]? := by rw [List.getElem?_drop, Nat.add_zero]
  rw [← h2, h1, show c.bd.length - i = (c.bd.length - (i + 1)) + 1 by omega, mkR_st]
  rfl
theorem makeP_len {c : Cl} {lead : Option Nat} : (makeP c lead).length = c.bd.length := by
  have h1 : ∀ (n : Nat) (s : St), (mkR c lead n s.jo s.V s.A).length = n := by
    intro n
    induction n with
    | zero => intro s; rfl
    | succ n ih => intro s; rw [mkR_st, List.length_cons, ih]
  exact h1 _ ⟨[], [], aheadP c⟩
theorem jnEq.at_ {js : List JG} {l : List Jn} (h : jnEq js l) {i : Nat} {y : JG} {j : Jn} (hy : js[i]? = some y) (hj : l[i]? = some j) : y.a = j.a ∧ y.kn = nI j.kn ∧ y.ts = nI j.ts := by
  have h1 := congrArg (·[i]?) h
  simp only [List.getElem?_map, hy, hj, Option.map_some, Option.some.injEq, Prod.mk.injEq] at h1
  exact h1
theorem jnEq.len {js : List JG} {l : List Jn} (h : jnEq js l) : js.length = l.length := by
  have h1 := congrArg List.length h
  simpa using h1
/-- In the end each test is among those that were asked. -/
theorem all_asked {c : Cl} (hc : VC c) {lead : Option Nat} (hlead : ∀ l, lead = some l → l < c.bd.length) {k : Nat} (hk : k < c.ts.length) : k ∈ (stP c lead c.bd.length).A := by
  have h := stP_ok hlead c.bd.length (Nat.le_refl _)
  refine (h.hA k hk).1 (ready_iff.2 fun v hv => ?_)
  obtain ⟨t, ht⟩ : ∃ t, c.ts[k]? = some t := ⟨_, List.getElem?_eq_getElem hk⟩
  rw [clT_at ht] at hv
  have h1 := hc.cvn.ts t (List.mem_of_getElem? ht) v hv
  obtain ⟨a, ha, hva⟩ := (hc.cvn.body v).2 h1
  obtain ⟨i, hi⟩ := List.mem_iff_getElem?.1 ha
  have hil := (List.getElem?_eq_some_iff.1 hi).1
  refine (h.hV v).2 ⟨i, ?_, by rw [clA_at hi]; exact hva⟩
  exact (perm_range h.nd h.jb h.len).mem_iff.2 (List.mem_range.2 hil)
/-- A test is asked once. -/
theorem ts_new {c : Cl} {lead : Option Nat} {s : St} : ∀ k ∈ (stN c lead s).ts, k < c.ts.length ∧ k ∉ s.A := fun k hk => by
  obtain ⟨h1, h2⟩ := List.mem_filter.1 hk
  rw [Bool.and_eq_true, decide_eq_true_eq] at h2
  exact ⟨List.mem_range.1 h1, h2.2⟩
theorem ts_nodup {c : Cl} {lead : Option Nat} {s : St} : (stN c lead s).ts.Nodup := List.nodup_range.filter _
theorem ahead_nodup {c : Cl} : (aheadP c).Nodup := List.nodup_range.filter _
theorem nodup_take {α : Type} {l : List α} (h : l.Nodup) {i : Nat} {x : α} (hx : l[i]? = some x) : x ∉ l.take i := fun hm => by
  obtain ⟨k, hk⟩ := List.mem_iff_getElem?.1 hm
  rw [List.getElem?_take] at hk
  split at hk
  · rename_i hlt
    have h1 := (List.getElem?_inj (List.getElem?_eq_some_iff.1 hk).1 h).1 (hk.trans hx.symm)
    omega
  · cases hk
theorem ahead_at {c : Cl} {k : Nat} (h : k ∈ aheadP c) : k < c.ts.length ∧ varB (clT c k).l = false ∧ varB (clT c k).r = false := by
  obtain ⟨h1, h2⟩ := List.mem_filter.1 h
  rw [Bool.and_eq_true] at h2
  exact ⟨List.mem_range.1 h1, by simpa using h2.1, by simpa using h2.2⟩
theorem refC_made {c : Cl} (hc : VC c) {lead : Int} : refC c lead = if lead < -1 ∨ (c.bd.length : Int) ≤ lead then 91 else 0 := by
  unfold refC
  rw [if_neg (fun h => h hc.chk)]
theorem lead_cases (lead : Int) (n : Nat) (h : ¬(lead < -1 ∨ (n : Int) ≤ lead)) : ∃ l : Option Nat, lead = leadI l ∧ ∀ k, l = some k → k < n := by
  by_cases h0 : 0 ≤ lead
  · exact ⟨some lead.toNat, by show lead = ((lead.toNat : Nat) : Int); omega, fun k hk => by cases hk; omega⟩
  · exact ⟨none, by show lead = -1; omega, fun k hk => by cases hk⟩
theorem lead_lt {lead : Option Nat} {n : Nat} (h : ∀ l, lead = some l → l < n) : -1 ≤ leadI lead ∧ (leadI lead < (n : Int) ∨ lead = none) := by
  cases lead with
  | none => exact ⟨by show (-1 : Int) ≤ -1; omega, Or.inr rfl⟩
  | some l => exact ⟨by show (-1 : Int) ≤ (l : Int); omega, Or.inl (by show (l : Int) < n; have := h l rfl; omega)⟩

end Go.Proofs.YtpgpkjbahlmgeaaGreatDoor

set_option maxRecDepth 10000
namespace Go.Proofs.YtpgpkjbahlmgeaaGreatDoor
open Go Go.Hw
set_option linter.unusedSimpArgs false
set_option linter.unusedVariables false
def kL (l : List Nat) : List Value := bL 9 fun k => decide (k ∈ l)
theorem kL_len (l : List Nat) : (kL l).length = 9 := bL_len _ _
theorem kL_get {l : List Nat} {k : Nat} (h : k < 9) : (kL l)[k]? = some (.bool (decide (k ∈ l))) := by
  unfold kL
  rw [bL_get h]
theorem kL_set {l : List Nat} {k : Nat} (h : k < 9) : (kL l).set k (.bool true) = kL (l ++ [k]) := by
  unfold kL
  refine bL_set h fun j _ => ?_
  rw [Bool.eq_iff_iff, Bool.or_eq_true, decide_eq_true_eq, decide_eq_true_eq, decide_eq_true_eq, List.mem_append, List.mem_singleton]
theorem kL_nil : List.replicate 9 (Value.bool false) = kL [] := by
  rw [bL_zero]
  exact bL_congr fun k _ => by simp
theorem mtL_nil : List.replicate 72 (Value.bool false) = mtL [] := by
  rw [bL_zero]
  exact bL_congr fun k _ => by simp
theorem nI_at {l : List Nat} {i k : Nat} (h : l[i]? = some k) : (ints (nI l))[i]? = some (.int .i64 (k : Int)) := by
  unfold ints nI
  rw [List.getElem?_map, List.getElem?_map, h]; rfl

theorem orders_bad (g : CG) (hs : ∀ y, y = g.hd ∨ y ∈ g.bd → y.x.args.length ≤ 1048576 ∧ y.x.name.size ≤ 1099511627776) (hbl : g.bd.length ≤ 1048576) (htl : g.ts.length ≤ 1048576) (lead : Int) (hb : lead < -1 ∨ ((madeC g.cl).bd.length : Int) ≤ lead) (w : World) (hN : NoneAt w) (hC : ChksAt w) (hr : RC w g) : Calls Tryz.prog 3 #[cgV g, .int .i64 lead] w fun e w' => e = .returned (.bool true) ∧ Fr0 w w' := by
  refine enterS (args := [cgV g, .int .i64 lead]) (fun _ => False) Tryz.func3 rfl Tryz.ntmps3 rfl rfl ?_
  refine Csr (WL.box rfl rfl rfl ?_)
  intro b2
  refine Za rfl (Nn (Csr (Zv (OV.loadN (cs := cgC g) rfl T.u30 rfl T.z30 (fun _ hw j v hj => by rw [add_off, Nat.zero_add]; exact own_cells hw (.head _) j v hj)) (WL.callTA (ι := CG) (vs := [cgV g]) (vv := fun q => cgV q) (pp := fun q => q.cl = madeC g.cl) [] (AA := fun q => cgA q) rfl (by kernel_rfl) rfl rfl (fun w' hw' _ => made_calls g hs hbl htl w' (hr.keeps hw'.keeps)) ?_))))
  rintro q hq
  have hv : VC q.cl := by rw [hq]; exact madeC_ok _
  have hqb : q.cl.bd.length = q.bd.length := List.length_map _
  have hb2 : lead < -1 ∨ (q.bd.length : Int) ≤ lead := by rw [← hq, hqb] at hb; exact hb
  have hb3 : lead < -1 ∨ (q.cl.bd.length : Int) ≤ lead := by rw [hqb]; exact hb2
  refine WL.alloc T.zr30 rfl ?_
  intro b5
  refine WL.storeAll (vs := cgC q) rfl rfl rfl T.z30 rfl ?_
  refine Nn (Csr (Zv (OV.loadN (cs := cgC q) rfl T.u30 rfl T.z30 (fun _ hw j v hj => by rw [add_off, Nat.zero_add]; exact own_cells hw (.head _) j v hj)) (Zm rfl (WL.call0 (v := .tuple #[pgV ⟨none, 0, [], none, 0, []⟩, .int .i64 91]) (vs := [cgV q, .int .i64 lead]) (by kernel_rfl) rfl rfl (fun w' hw' => (make_bad q hv.cs lead (by rw [refC_made hv, if_pos hb3]; decide) w' (hN.keeps hw'.keeps) (hC.keeps hw'.keeps) (RC.of_items hw' (fun i hi => show i ∈ own b5 (.cells (cgC q).toArray 30 (0, 0)) :: (cgA q ++ [own b2 (.cells (cgC g).toArray 30 (0, 0))]) from .tail _ (List.mem_append_left _ hi)))).mono (fun en w'' ⟨h1, h2⟩ => ⟨by rw [h1, refC_made hv, if_pos hb3], h2⟩)) ?_))))
  refine Zm rfl (Zv (OV.extract rfl rfl) (Zv (OV.extract rfl rfl) (WL.alloc T.zr35 rfl ?_)))
  intro b6
  refine WL.storeAll (vs := pgC ⟨none, 0, [], none, 0, []⟩) rfl rfl rfl T.z35 rfl ?_
  refine Za rfl (Nn (Cs (Csr (Zm rfl (Zv (OV.lss rfl rfl) (Zm rfl ?_))))))
  refine Zp (t := 29) rfl (fun g29 => ?_) (fun g29 => ?_)
  · refine Zs rfl rfl rfl (Zs rfl rfl rfl (Zs rfl rfl rfl (Zs rfl rfl rfl (Zs rfl rfl rfl (Zv (OV.pickT rfl rfl) (Nn (WC.condT (show _ = some (Value.bool true) from by rfl) ?_)))))))
    refine Csr (Zm rfl (Zv ((OV.eql rfl rfl).cast (u := .bool true) (rfl)) (Zm rfl (WL.known (t := 38) (b := true) rfl (by rfl) ?_))))
    refine Zg rfl rfl rfl (Zv (OV.fieldAddr0 (off := 1) rfl T.u35 rfl) (Zg rfl rfl rfl (Zv (OV.load1 (v := .slice none 0 0) rfl T.u33 rfl (fun _ hw => (cell_at (hw.it _ (.head _)) (o := 1) rfl).1)) (Zg rfl rfl rfl (Zv (OV.lenSlice rfl T.u33) (Zg rfl rfl rfl (Zv ((OV.eql rfl rfl).cast (u := .bool true) (rfl)) (Zv (OV.pickT rfl rfl) (Zm rfl (WL.known (t := 44) (b := true) rfl (by rfl) ?_))))))))))
    refine Zg rfl rfl rfl (WL.call0 (v := .bool true) (vs := []) (by kernel_rfl) rfl rfl (fun w' hw' => first_calls w' (hN.keeps hw'.keeps) (hC.keeps hw'.keeps)) ?_)
    refine Zv (OV.pickT rfl rfl) (Za rfl (Nn (WC.ret ?_)))
    refine Xr ?_
    exact WX.ret1 rfl rfl rfl (fun w' hw => ⟨rfl, hw.fr⟩)
  refine Zg rfl rfl rfl (Zm rfl (Zg rfl rfl rfl (Zv (OV.fieldAddr0 (off := 5) rfl T.u30 rfl) (Zg rfl rfl rfl (Zv (OV.load1 (v := .slice q.ba q.bd.length q.bc) rfl T.u27 rfl (fun _ hw => (cell_at (hw.it _ (.tail _ (.head _))) (o := 5) rfl).1)) (Zg rfl rfl rfl (Zv (OV.lenSlice rfl T.u27) (Zg rfl rfl rfl (Zv ((OV.geq rfl rfl).cast (u := .bool true) (congrArg Value.bool (decide_eq_true (by omega)))) (Zv (OV.pickF rfl rfl) (Nn (WC.condT (show _ = some (Value.bool true) from by rfl) ?_))))))))))))
  refine Csr (Zm rfl (Zv ((OV.eql rfl rfl).cast (u := .bool true) (rfl)) (Zm rfl (WL.known (t := 38) (b := true) rfl (by rfl) ?_))))
  refine Zg rfl rfl rfl (Zv (OV.fieldAddr0 (off := 1) rfl T.u35 rfl) (Zg rfl rfl rfl (Zv (OV.load1 (v := .slice none 0 0) rfl T.u33 rfl (fun _ hw => (cell_at (hw.it _ (.head _)) (o := 1) rfl).1)) (Zg rfl rfl rfl (Zv (OV.lenSlice rfl T.u33) (Zg rfl rfl rfl (Zv ((OV.eql rfl rfl).cast (u := .bool true) (rfl)) (Zv (OV.pickT rfl rfl) (Zm rfl (WL.known (t := 44) (b := true) rfl (by rfl) ?_))))))))))
  refine Zg rfl rfl rfl (WL.call0 (v := .bool true) (vs := []) (by kernel_rfl) rfl rfl (fun w' hw' => first_calls w' (hN.keeps hw'.keeps) (hC.keeps hw'.keeps)) ?_)
  refine Zv (OV.pickT rfl rfl) (Za rfl (Nn (WC.ret ?_)))
  refine Xr ?_
  exact WX.ret1 rfl rfl rfl (fun w' hw => ⟨rfl, hw.fr⟩)

set_option maxHeartbeats 2000000 in
theorem orders_good (g : CG) (hs : ∀ y, y = g.hd ∨ y ∈ g.bd → y.x.args.length ≤ 1048576 ∧ y.x.name.size ≤ 1099511627776) (hbl : g.bd.length ≤ 1048576) (htl : g.ts.length ≤ 1048576) (lead : Option Nat) (hld0 : ∀ l, lead = some l → l < (madeC g.cl).bd.length) (w : World) (hN : NoneAt w) (hC : ChksAt w) (hr : RC w g) : Calls Tryz.prog 3 #[cgV g, .int .i64 (leadI lead)] w fun e w' => e = .returned (.bool true) ∧ Fr0 w w' := by
  refine enterS (args := [cgV g, .int .i64 (leadI lead)]) (fun _ => False) Tryz.func3 rfl Tryz.ntmps3 rfl rfl ?_
  refine Csr (WL.box rfl rfl rfl ?_)
  intro b2
  refine Za rfl (Nn (Csr (Zv (OV.loadN (cs := cgC g) rfl T.u30 rfl T.z30 (fun _ hw j v hj => by rw [add_off, Nat.zero_add]; exact own_cells hw (.head _) j v hj)) (WL.callTA (ι := CG) (vs := [cgV g]) (vv := fun q => cgV q) (pp := fun q => q.cl = madeC g.cl) [] (AA := fun q => cgA q) rfl (by kernel_rfl) rfl rfl (fun w' hw' _ => made_calls g hs hbl htl w' (hr.keeps hw'.keeps)) ?_))))
  rintro q hq
  have hv : VC q.cl := by rw [hq]; exact madeC_ok _
  have hqb : q.cl.bd.length = q.bd.length := List.length_map _
  refine WL.alloc T.zr30 rfl ?_
  intro b5
  refine WL.storeAll (vs := cgC q) rfl rfl rfl T.z30 rfl ?_
  refine Nn (Csr (Zv (OV.loadN (cs := cgC q) rfl T.u30 rfl T.z30 (fun _ hw j v hj => by rw [add_off, Nat.zero_add]; exact own_cells hw (.head _) j v hj)) (Zm rfl (WL.callTA (ι := PG) (vs := [cgV q, .int .i64 (leadI lead)]) (vv := fun p => .tuple #[pgV p, .int .i64 0]) (pp := fun p => p.al = nI (aheadP q.cl) ∧ jnEq p.js (makeP q.cl lead)) [] (AA := fun p => pgA p) rfl (by kernel_rfl) rfl rfl (fun w' hw' _ => make_calls q hv.cs hv lead (by rw [hq]; exact hld0) w' (hN.keeps hw'.keeps) (hC.keeps hw'.keeps) (RC.of_items hw' (fun i hi => show i ∈ own b5 (.cells (cgC q).toArray 30 (0, 0)) :: (cgA q ++ [own b2 (.cells (cgC g).toArray 30 (0, 0))]) from .tail _ (List.mem_append_left _ hi)))) ?_))))
  rintro ⟨aa, ac, al, ja, jc, js⟩ ⟨hpa, hpj⟩
  obtain rfl : al = nI (aheadP q.cl) := hpa
  replace hpj : jnEq js (makeP q.cl lead) := hpj
  have hld : ∀ l, lead = some l → l < q.cl.bd.length := by rw [hq]; exact hld0
  clear hld0
  have hjl : js.length = q.bd.length := by rw [hpj.len, makeP_len, hqb]
  have hl1 := (lead_lt hld).1
  have hl3 : leadI lead < (q.bd.length : Int) := by
    rcases (lead_lt hld).2 with h | h
    · rw [hqb] at h; exact h
    · rw [h]; show (-1 : Int) < _; omega
  have hnl : (nI (aheadP q.cl)).length = (aheadP q.cl).length := List.length_map _
  have hb8 : q.bd.length ≤ 8 := by rw [← hqb]; exact hv.bl
  have ht8 : q.ts.length ≤ 8 := hv.tl
  have hal8 : (aheadP q.cl).length ≤ q.ts.length := range_f_len _ _
  refine Zm rfl (Zv (OV.extract rfl rfl) (Zv (OV.extract rfl rfl) (WL.alloc T.zr35 rfl ?_)))
  intro b6
  refine WL.storeAll (vs := pgC ⟨aa, ac, nI (aheadP q.cl), ja, jc, js⟩) rfl rfl rfl T.z35 rfl ?_
  refine Za rfl (Nn (Cs (Cs (WC.focus (ow' := own b6 (.cells (pgC ⟨aa, ac, nI (aheadP q.cl), ja, jc, js⟩).toArray 35 (0, 0)) :: own b5 (.cells (cgC q).toArray 30 (0, 0)) :: own b2 (.cells (cgC g).toArray 30 (0, 0)) :: (cgA q ++ pgA ⟨aa, ac, nI (aheadP q.cl), ja, jc, js⟩)) (perm_cat [[own b6 (.cells (pgC ⟨aa, ac, nI (aheadP q.cl), ja, jc, js⟩).toArray 35 (0, 0))], pgA ⟨aa, ac, nI (aheadP q.cl), ja, jc, js⟩, [own b5 (.cells (cgC q).toArray 30 (0, 0))], cgA q, [own b2 (.cells (cgC g).toArray 30 (0, 0))]] [0, 2, 4, 3, 1] (by decide) rfl) ?_))))
  refine Cr (Zm rfl (Zv ((OV.lss rfl rfl).cast (u := .bool false) (congrArg Value.bool (decide_eq_false (by omega)))) (Zm rfl (WL.known (t := 29) (b := false) rfl (by rfl) ?_))))
  refine Zg rfl rfl rfl (Zm rfl (Zg rfl rfl rfl (Zv (OV.fieldAddr0 (off := 5) rfl T.u30 rfl) (Zg rfl rfl rfl (Zv (OV.load1 (v := .slice q.ba q.bd.length q.bc) rfl T.u27 rfl (fun _ hw => (cell_at (hw.it _ (.tail _ (.head _))) (o := 5) rfl).1)) (Zg rfl rfl rfl (Zv (OV.lenSlice rfl T.u27) (Zg rfl rfl rfl (Zv ((OV.geq rfl rfl).cast (u := .bool false) (congrArg Value.bool (decide_eq_false (by omega)))) (Zv (OV.pickF rfl rfl) (Nn (WC.condF (show _ = some (Value.bool false) from by rfl) ?_))))))))))))
  refine Ck (Xn (Cs (Cs ?_)))
  refine WC.meet [(5, .pointer (some ⟨b5, 0, none⟩)), (6, .pointer (some ⟨b6, 0, none⟩)), (70, .bool false)] (Sat0 w (own b6 (.cells (pgC ⟨aa, ac, nI (aheadP q.cl), ja, jc, js⟩).toArray 35 (0, 0)) :: own b5 (.cells (cgC q).toArray 30 (0, 0)) :: own b2 (.cells (cgC g).toArray 30 (0, 0)) :: (cgA q ++ pgA ⟨aa, ac, nI (aheadP q.cl), ja, jc, js⟩))) ?_ ?_
  · refine Cr (Zm rfl (Zv ((OV.neq rfl rfl).cast (u := .bool false) rfl) (Zm rfl (WL.known (t := 49) (b := false) rfl (by rfl) ?_))))
    refine Zg rfl rfl rfl (Zv (OV.fieldAddr0 (off := 1) rfl T.u35 rfl) (Zg rfl rfl rfl (Zv (OV.load1 (v := .slice ja js.length jc) rfl T.u33 rfl (fun _ hw => (cell_at (hw.it _ (.head _)) (o := 1) rfl).1)) (Zg rfl rfl rfl (Zv (OV.lenSlice rfl T.u33) (Zg rfl rfl rfl (Zv (OV.fieldAddr0 (off := 5) rfl T.u30 rfl) (Zg rfl rfl rfl (Zv (OV.load1 (v := .slice q.ba q.bd.length q.bc) rfl T.u27 rfl (fun _ hw => (cell_at (hw.it _ (.tail _ (.head _))) (o := 5) rfl).1)) (Zg rfl rfl rfl (Zv (OV.lenSlice rfl T.u27) (Zg rfl rfl rfl (Zv ((OV.neq rfl rfl).cast (u := .bool false) (by rw [hjl]; simp)) (Zv (OV.pickF rfl rfl) (Zm rfl (WL.known (t := 58) (b := false) rfl (by rfl) ?_))))))))))))))))
    refine Zg rfl rfl rfl (Zm rfl (Zg rfl rfl rfl (Zv (OV.geq rfl rfl) (Zg rfl rfl rfl (Zm rfl ?_)))))
    refine Zp (t := 61) rfl (fun g61 => ?_) (fun g61 => ?_)
    · refine Zg rfl rfl rfl (Zv (OV.fieldAddr0 (off := 1) rfl T.u35 rfl) (Zg rfl rfl rfl (Zv (OV.load1 (v := .slice ja js.length jc) rfl T.u33 rfl (fun _ hw => (cell_at (hw.it _ (.head _)) (o := 1) rfl).1)) (Zg rfl rfl rfl ?_))))
      obtain ⟨l, rfl⟩ : ∃ l, lead = some l := by
        cases lead with
        | none => exact absurd g61 (by show ¬ (0 : Int) ≤ -1; omega)
        | some l => exact ⟨l, rfl⟩
      have hlb := hld l rfl
      obtain ⟨y, hy⟩ : ∃ y, js[0]? = some y := ⟨_, List.getElem?_eq_getElem (by omega)⟩
      have hya : (y.a : Int) = leadI (some l) := by
        rw [(hpj.at_ hy (makeP_at (by omega))).1]
        simp [stN, stP, pick1, leadI]
      refine WL.know (fun w' hw' => row_addrK (hw'.it (rowJ ja jc js) (.tail _ (.tail _ (.tail _ (List.mem_append_right _ (.tail _ (.head _))))))) (by omega)) (fun hqq => ?_)
      obtain ⟨bj, hbj⟩ := hqq
      refine Zv ((OV.indexSlice (show _ = some (Value.slice (some ⟨bj, 0, none⟩) js.length jc) by rw [← hbj]; rfl) rfl T.u33 T.z41 (by omega)).cast (u := .pointer (some ⟨bj, 0, none⟩)) rfl) (Zg rfl rfl rfl (Zv ((OV.fieldAddrA (off := 0) rfl T.u41 rfl).cast (u := .pointer (some (⟨bj, 0, none⟩))) (by rw [addr_add0])) (Zg rfl rfl rfl (Zv (OV.load1 (v := .int .i64 (y.a : Int)) rfl T.u3 rfl (fun _ hw => by have h := (RJ.of_row hw (.tail _ (.tail _ (.tail _ (List.mem_append_right _ (.tail _ (.head _))))))).at_ _ hbj 0 y hy 0 _ rfl; rwa [Nat.zero_mul, addr_add0, addr_add0] at h)) (Zg rfl rfl rfl (Zm rfl (Zg rfl rfl rfl (Zv ((OV.neq rfl rfl).cast (u := .bool false) (by rw [hya]; simp)) (Zg rfl rfl rfl (Zv (OV.pickT rfl rfl) (Zv (OV.pickF rfl rfl) (Nl ?_))))))))))))
      exact WX.meet ⟨rfl, rfl, rfl, trivial⟩ (fun w' hw => hw)
    refine Zs rfl rfl rfl (Zs rfl rfl rfl (Zs rfl rfl rfl (Zs rfl rfl rfl (Zs rfl rfl rfl (Zs rfl rfl rfl (Zs rfl rfl rfl (Zg rfl rfl rfl (Zv (OV.pickF rfl rfl) (Zv (OV.pickF rfl rfl) (Nl ?_))))))))))
    exact WX.meet ⟨rfl, rfl, rfl, trivial⟩ (fun w' hw => hw)
  refine WC.condF (show _ = some (Value.bool false) from by rfl) ?_
  refine Ck (Xn (Csr (WL.alloc (cs := kL []) (by rw [← kL_nil]; exact T.zr42) rfl ?_)))
  intro b8
  refine Nn (Csr (WL.alloc (cs := kL []) (by rw [← kL_nil]; exact T.zr42) rfl ?_))
  intro b9
  refine Nn (Csr (WL.alloc (cs := mtL []) (by rw [← mtL_nil]; exact T.zr43) rfl ?_))
  intro b10
  refine Nn (Cs (Csr (Za rfl (Nn (Cb ?_)))))
  refine WC.loop1 (fun (i : Nat) => [(5, .pointer (some ⟨b5, 0, none⟩)), (6, .pointer (some ⟨b6, 0, none⟩)), (8, .pointer (some ⟨b8, 0, none⟩)), (9, .pointer (some ⟨b9, 0, none⟩)), (10, .pointer (some ⟨b10, 0, none⟩)), (11, .int .i64 (i : Int))])
      (fun i w' => i ≤ (aheadP q.cl).length ∧ Sat0 w (own b10 (.cells (mtL []).toArray 43 (0, 0)) :: own b9 (.cells (kL ((aheadP q.cl).take i)).toArray 42 (0, 0)) :: own b8 (.cells (kL []).toArray 42 (0, 0)) :: own b6 (.cells (pgC ⟨aa, ac, nI (aheadP q.cl), ja, jc, js⟩).toArray 35 (0, 0)) :: own b5 (.cells (cgC q).toArray 30 (0, 0)) :: own b2 (.cells (cgC g).toArray 30 (0, 0)) :: (cgA q ++ pgA ⟨aa, ac, nI (aheadP q.cl), ja, jc, js⟩)) w')
      (fun i => (aheadP q.cl).length - i) 0 ⟨rfl, rfl, rfl, rfl, rfl, rfl, trivial⟩ (fun w' hw => ⟨by omega, hw⟩) ?_
  intro i
  refine WC.pure (fun hi => ?_)
  refine Cs (Csr (Zm rfl (Zv (OV.fieldAddr0 (off := 0) rfl T.u35 rfl) (Zv (OV.load1 (v := .slice aa (nI (aheadP q.cl)).length ac) rfl T.u32 rfl (fun _ hw => (cell_at (hw.it _ (.tail _ (.tail _ (.tail _ (.head _))))) (o := 0) rfl).1)) (Zv (OV.lenSlice rfl T.u32) (Zv (OV.lss rfl rfl) (Nn ?_)))))))
  refine Cc rfl (fun c75 => ?_) (fun c75 => ?_)
  · refine Ck (Xn (Cs (Cb (Cs ?_))))
    obtain ⟨k, hk⟩ : ∃ k, (aheadP q.cl)[i]? = some k := ⟨_, List.getElem?_eq_getElem (by omega)⟩
    obtain ⟨hkt0, hkl, hkr⟩ := ahead_at (List.mem_of_getElem? hk)
    have hkt : k < q.ts.length := hkt0
    have hkn := nodup_take ahead_nodup hk
    obtain ⟨t, ht⟩ : ∃ t, q.ts[k]? = some t := ⟨_, List.getElem?_eq_getElem hkt⟩
    rw [clT_cg ht] at hkl hkr
    have hvt := hv.vtT (u := t) (List.mem_of_getElem? ht)
    refine Cr (Zv (OV.fieldAddr0 (off := 0) rfl T.u35 rfl) (Zv (OV.load1 (v := .slice aa (nI (aheadP q.cl)).length ac) rfl T.u32 rfl (fun _ hw => (cell_at (hw.it _ (.tail _ (.tail _ (.tail _ (.head _))))) (o := 0) rfl).1)) (Zm rfl ?_)))
    refine WL.know (fun w' hw' => row_addrK (hw'.it (rowI aa ac (nI (aheadP q.cl))) (.tail _ (.tail _ (.tail _ (.tail _ (.tail _ (.tail _ (List.mem_append_right _ (.head _))))))))) (by omega)) (fun hqq => ?_)
    obtain ⟨ba, hba⟩ := hqq
    refine Zv (OV.indexSliceN (show _ = some (Value.slice (some ⟨ba, 0, none⟩) (nI (aheadP q.cl)).length ac) by rw [← hba]; rfl) rfl T.u32 T.z3 (by omega)) (Zv (OV.load1 (v := .int .i64 (k : Int)) rfl T.u3 rfl (fun _ hw => by have h := row_cellsE hw hba (.tail _ (.tail _ (.tail _ (.tail _ (.tail _ (.tail _ (List.mem_append_right _ (.head _)))))))) i _ (nI_at hk); rwa [add_off, Nat.zero_add] at h)) (Za rfl (Nn (Cs (Csr (Zm rfl (Zv ((OV.lss rfl rfl).cast (u := .bool false) (congrArg Value.bool (decide_eq_false (by omega)))) (Zm rfl (WL.known (t := 85) (b := false) rfl (by rfl) ?_)))))))))
    refine Zg rfl rfl rfl (Zm rfl (Zg rfl rfl rfl (Zv (OV.fieldAddr0 (off := 6) rfl T.u30 rfl) (Zg rfl rfl rfl (Zv (OV.load1 (v := .slice q.ta q.ts.length q.tc) rfl T.u28 rfl (fun _ hw => (cell_at (hw.it _ (.tail _ (.tail _ (.tail _ (.tail _ (.head _)))))) (o := 6) rfl).1)) (Zg rfl rfl rfl (Zv (OV.lenSlice rfl T.u28) (Zg rfl rfl rfl (Zv ((OV.geq rfl rfl).cast (u := .bool false) (congrArg Value.bool (decide_eq_false (by omega)))) (Zv (OV.pickF rfl rfl) (Zm rfl (WL.known (t := 92) (b := false) rfl (by rfl) ?_))))))))))))
    refine Zg rfl rfl rfl (Zm rfl (Zg rfl rfl rfl (Zv (OV.indexArrN rfl rfl T.u42 T.z4 (by omega)) (Zg rfl rfl rfl (Zv (OV.load1 (v := .bool false) rfl T.u4 rfl (fun _ hw => own_cells hw (.tail _ (.head _)) k _ (by rw [kL_get (by omega), decide_eq_false hkn]))) (Zv (OV.pickF rfl rfl) (Zm rfl (WL.known (t := 97) (b := false) rfl (by rfl) ?_))))))))
    refine Zg rfl rfl rfl (Zv (OV.fieldAddr0 (off := 6) rfl T.u30 rfl) (Zg rfl rfl rfl (Zv (OV.load1 (v := .slice q.ta q.ts.length q.tc) rfl T.u28 rfl (fun _ hw => (cell_at (hw.it _ (.tail _ (.tail _ (.tail _ (.tail _ (.head _)))))) (o := 6) rfl).1)) (Zg rfl rfl rfl (Zm rfl (Zg rfl rfl rfl ?_))))))
    refine WL.know (fun w' hw' => row_addrK (hw'.it (rowS q.ta q.tc q.ts) (.tail _ (.tail _ (.tail _ (.tail _ (.tail _ (.tail _ (List.mem_append_left _ (.tail _ (List.mem_append_right _ (.head _))))))))))) (by omega)) (fun hqq => ?_)
    obtain ⟨bt, hbt⟩ := hqq
    refine Zv ((OV.indexSlice (show _ = some (Value.slice (some ⟨bt, 0, none⟩) q.ts.length q.tc) by rw [← hbt]; rfl) rfl T.u28 T.z45 (by omega)).cast (u := .pointer (some ((⟨bt, 0, none⟩ : Addr).add (k * 7)))) (by rw [Int.toNat_natCast])) (Zg rfl rfl rfl (Zv ((OV.fieldAddrA (off := 1) rfl T.u45 rfl).cast (u := .pointer (some (((⟨bt, 0, none⟩ : Addr).add (k * 7)).add 1))) (rfl)) (Zg rfl rfl rfl (Zv ((OV.fieldAddrA (off := 0) rfl T.u23 rfl).cast (u := .pointer (some (((⟨bt, 0, none⟩ : Addr).add (k * 7)).add 1))) (by rw [addr_add0])) (Zg rfl rfl rfl (Zv (OV.load1 (v := .int .i64 t.l.kind) rfl T.u3 rfl (fun _ hw => by have h := (RS.of_row hw (.tail _ (.tail _ (.tail _ (.tail _ (.tail _ (.tail _ (List.mem_append_left _ (.tail _ (List.mem_append_right _ (.head _))))))))))).at_ _ hbt k t ht 1 _ rfl; exact h)) (Zg rfl rfl rfl (Zv ((OV.eql rfl rfl).cast (u := .bool false) (congrArg Value.bool (decide_eq_false (fun h => Bool.noConfusion (hkl.symm.trans (hvt.1.k.1 h)))))) (Zv (OV.pickF rfl rfl) (Zm rfl (WL.known (t := 107) (b := false) rfl (by rfl) ?_)))))))))))
    refine Zg rfl rfl rfl (Zv (OV.fieldAddr0 (off := 6) rfl T.u30 rfl) (Zg rfl rfl rfl (Zv (OV.load1 (v := .slice q.ta q.ts.length q.tc) rfl T.u28 rfl (fun _ hw => (cell_at (hw.it _ (.tail _ (.tail _ (.tail _ (.tail _ (.head _)))))) (o := 6) rfl).1)) (Zg rfl rfl rfl (Zm rfl (Zg rfl rfl rfl (Zv ((OV.indexSlice (show _ = some (Value.slice (some ⟨bt, 0, none⟩) q.ts.length q.tc) by rw [← hbt]; rfl) rfl T.u28 T.z45 (by omega)).cast (u := .pointer (some ((⟨bt, 0, none⟩ : Addr).add (k * 7)))) (by rw [Int.toNat_natCast])) (Zg rfl rfl rfl (Zv ((OV.fieldAddrA (off := 4) rfl T.u45 rfl).cast (u := .pointer (some (((⟨bt, 0, none⟩ : Addr).add (k * 7)).add 4))) (rfl)) (Zg rfl rfl rfl (Zv ((OV.fieldAddrA (off := 0) rfl T.u23 rfl).cast (u := .pointer (some (((⟨bt, 0, none⟩ : Addr).add (k * 7)).add 4))) (by rw [addr_add0])) (Zg rfl rfl rfl (Zv (OV.load1 (v := .int .i64 t.r.kind) rfl T.u3 rfl (fun _ hw => by have h := (RS.of_row hw (.tail _ (.tail _ (.tail _ (.tail _ (.tail _ (.tail _ (List.mem_append_left _ (.tail _ (List.mem_append_right _ (.head _))))))))))).at_ _ hbt k t ht 4 _ rfl; exact h)) (Zg rfl rfl rfl (Zv ((OV.eql rfl rfl).cast (u := .bool false) (congrArg Value.bool (decide_eq_false (fun h => Bool.noConfusion (hkr.symm.trans (hvt.2.k.1 h)))))) (Zv (OV.pickF rfl rfl) (Nn (WC.condF (show _ = some (Value.bool false) from by rfl) ?_))))))))))))))))))
    refine Ck (Xn (Cr (Zm rfl (Zv (OV.indexArrN rfl rfl T.u42 T.z4 (by omega)) ?_))))
    refine WL.focus perm1 (WL.store1 (o := k) rfl rfl rfl T.z4 (by rw [kL_len]; omega) ?_)
    refine Nl (Xb (Xn (Cr (Zm rfl (Zv (OV.addN (j := 1) rfl rfl (by omega)) (Za rfl (Nl ?_)))))))
    rw [kL_set (by omega), ← tk_snoc hk]
    exact WX.round1 (i + 1) ⟨rfl, rfl, rfl, rfl, rfl, rfl, trivial⟩ (fun w' hw => ⟨by omega, hw.perm perm1⟩) (by show (aheadP q.cl).length - (i + 1) < (aheadP q.cl).length - i; omega)
  refine Ce (Xe (Xe (Xh (Xn (Cs (Csr (Za rfl (Nn (Cb ?_)))))))))
  obtain rfl : i = (aheadP q.cl).length := by omega
  rw [List.take_length]
  refine WC.loop1 (fun (i : Nat) => [(5, .pointer (some ⟨b5, 0, none⟩)), (6, .pointer (some ⟨b6, 0, none⟩)), (8, .pointer (some ⟨b8, 0, none⟩)), (9, .pointer (some ⟨b9, 0, none⟩)), (10, .pointer (some ⟨b10, 0, none⟩)), (13, .int .i64 (i : Int))])
      (fun i w' => i ≤ q.bd.length ∧ Sat0 w (own b10 (.cells (mtL (stP q.cl lead i).V).toArray 43 (0, 0)) :: own b9 (.cells (kL (stP q.cl lead i).A).toArray 42 (0, 0)) :: own b8 (.cells (kL (stP q.cl lead i).jo).toArray 42 (0, 0)) :: own b6 (.cells (pgC ⟨aa, ac, nI (aheadP q.cl), ja, jc, js⟩).toArray 35 (0, 0)) :: own b5 (.cells (cgC q).toArray 30 (0, 0)) :: own b2 (.cells (cgC g).toArray 30 (0, 0)) :: (cgA q ++ pgA ⟨aa, ac, nI (aheadP q.cl), ja, jc, js⟩)) w')
      (fun i => q.bd.length - i) 0 ⟨rfl, rfl, rfl, rfl, rfl, rfl, trivial⟩ (fun w' hw => ⟨by omega, hw⟩) ?_
  clear hi
  intro i
  refine WC.pure (fun hi => ?_)
  refine Cs (Csr (Zm rfl (Zv (OV.fieldAddr0 (off := 1) rfl T.u35 rfl) (Zv (OV.load1 (v := .slice ja js.length jc) rfl T.u33 rfl (fun _ hw => (cell_at (hw.it _ (.tail _ (.tail _ (.tail _ (.head _))))) (o := 1) rfl).1)) (Zv (OV.lenSlice rfl T.u33) (Zv (OV.lss rfl rfl) (Nn ?_)))))))
  refine Cc rfl (fun c123 => ?_) (fun c123 => ?_)
  · refine Ck (Xn (Cs (Cb (Cs ?_))))
    have hib : i < q.cl.bd.length := by omega
    have hst := stP_ok hld i (by omega)
    obtain ⟨y, hy⟩ : ∃ y, js[i]? = some y := ⟨_, List.getElem?_eq_getElem (by omega)⟩
    obtain ⟨hya, hyk, hyt⟩ := hpj.at_ hy (makeP_at hib)
    obtain ⟨hpn, hpb⟩ := pick1_ok (V := (stP q.cl lead i).V) hld hst.nd hst.jb (by rw [hst.len]; exact hib)
    obtain ⟨ya, ka, kc, kn, ta, tc, ts⟩ := y
    replace hya : ya = (stN q.cl lead (stP q.cl lead i)).a := hya
    have hyn : ya ∉ (stP q.cl lead i).jo := by rw [hya]; exact hpn
    have hyb : ya < q.bd.length := by rw [hya, ← hqb]; exact hpb
    obtain ⟨z, hz⟩ : ∃ z, q.bd[ya]? = some z := ⟨_, List.getElem?_eq_getElem hyb⟩
    have hzc : clA q.cl ya = z.x := clA_cg hz
    have hza : z.x ∈ q.cl.bd := List.mem_map.2 ⟨z, List.mem_of_getElem? hz, rfl⟩
    have hvz := hv.vtB hza
    have hz8 := hv.args hza
    obtain rfl : ts = nI (stN q.cl lead (stP q.cl lead i)).ts := hyt
    obtain rfl : kn = nI (knownL (stP q.cl lead i).V z.x) := by rw [← hzc, hya]; exact hyk
    have hV1 : (stP q.cl lead (i + 1)).V = (stP q.cl lead i).V ++ varsOf z.x := by
      show (stP q.cl lead i).V ++ varsOf (clA q.cl (stN q.cl lead (stP q.cl lead i)).a) = _
      rw [← hya, hzc]
    have hJ1 : (stP q.cl lead (i + 1)).jo = (stP q.cl lead i).jo ++ [ya] := by
      show (stP q.cl lead i).jo ++ [(stN q.cl lead (stP q.cl lead i)).a] = _
      rw [← hya]
    have hA1 : (stP q.cl lead (i + 1)).A = (stP q.cl lead i).A ++ (stN q.cl lead (stP q.cl lead i)).ts := rfl
    refine WC.know (fun w' hw' => row_addrK (hw'.it (rowJ ja jc js) (.tail _ (.tail _ (.tail _ (.tail _ (.tail _ (.tail _ (List.mem_append_right _ (.tail _ (.head _)))))))))) (by omega)) (fun hqq => ?_)
    obtain ⟨bj, hbj⟩ := hqq
    refine Cr (Zv (OV.fieldAddr0 (off := 1) rfl T.u35 rfl) (Zv (OV.load1 (v := .slice ja js.length jc) rfl T.u33 rfl (fun _ hw => (cell_at (hw.it _ (.tail _ (.tail _ (.tail _ (.head _))))) (o := 1) rfl).1)) (Zm rfl (Zv ((OV.indexSlice (show _ = some (Value.slice (some ⟨bj, 0, none⟩) js.length jc) by rw [← hbj]; rfl) rfl T.u33 T.z41 (by omega)).cast (u := .pointer (some ((⟨bj, 0, none⟩ : Addr).add (i * 3)))) (by rw [Int.toNat_natCast])) (Zv (OV.loadN (cs := jgC (⟨ya, ka, kc, nI (knownL (stP q.cl lead i).V z.x), ta, tc, nI (stN q.cl lead (stP q.cl lead i)).ts⟩ : JG)) rfl T.u41 rfl T.z41 (fun _ hw j v hj => (RJ.of_row hw (.tail _ (.tail _ (.tail _ (.tail _ (.tail _ (.tail _ (List.mem_append_right _ (.tail _ (.head _)))))))))).at_ _ hbj i _ hy j v hj)) (WL.alloc T.zr41 rfl ?_))))))
    intro b14
    refine WL.storeAll (vs := jgC (⟨ya, ka, kc, nI (knownL (stP q.cl lead i).V z.x), ta, tc, nI (stN q.cl lead (stP q.cl lead i)).ts⟩ : JG)) rfl rfl rfl T.z41 rfl ?_
    refine Nn (Cs (Cs ?_))
    refine WC.know (fun w' hw' => row_addrK (hw'.it (rowAt q.ba q.bc q.bd) (.tail _ (.tail _ (.tail _ (.tail _ (.tail _ (.tail _ (.tail _ (List.mem_append_left _ (.tail _ (List.mem_append_left _ (.head _)))))))))))) (by omega)) (fun hqq => ?_)
    obtain ⟨bb, hbb⟩ := hqq
    refine Hq [] (m := 30) rfl ?_
    refine Hf 0 rfl (OV.fieldAddr0 (off := 0) rfl T.u41 rfl) (Ht 1 rfl (OV.load1 (v := .int .i64 (ya : Int)) rfl T.u3 rfl (fun _ hw => (cell_at (hw.it _ (.head _)) (o := 0) rfl).1)) (Hf 2 rfl ((OV.lss rfl rfl).cast (u := .bool false) (congrArg Value.bool (decide_eq_false (by omega)))) (Hf 3 rfl (OV.move rfl) (Hk (t := 134) (b := false) rfl (by rfl) ?_))))
    refine Hfg 4 rfl rfl rfl rfl (OV.fieldAddr0 (off := 0) rfl T.u41 rfl) (Htg 5 rfl rfl rfl rfl (OV.load1 (v := .int .i64 (ya : Int)) rfl T.u3 rfl (fun _ hw => (cell_at (hw.it _ (.head _)) (o := 0) rfl).1)) (Hfg 6 rfl rfl rfl rfl (OV.fieldAddr0 (off := 5) rfl T.u30 rfl) (Htg 7 rfl rfl rfl rfl (OV.load1 (v := .slice q.ba q.bd.length q.bc) rfl T.u27 rfl (fun _ hw => (cell_at (hw.it _ (.tail _ (.tail _ (.tail _ (.tail _ (.tail _ (.head _))))))) (o := 5) rfl).1)) (Hfg 8 rfl rfl rfl rfl (OV.lenSlice rfl T.u27) (Hfg 9 rfl rfl rfl rfl ((OV.geq rfl rfl).cast (u := .bool false) (congrArg Value.bool (decide_eq_false (by omega)))) (Hf 10 rfl (OV.pickF rfl rfl) (Hf 11 rfl (OV.move rfl) (Hk (t := 142) (b := false) rfl (by rfl) ?_))))))))
    refine Hfg 12 rfl rfl rfl rfl (OV.fieldAddr0 (off := 0) rfl T.u41 rfl) (Htg 13 rfl rfl rfl rfl (OV.load1 (v := .int .i64 (ya : Int)) rfl T.u3 rfl (fun _ hw => (cell_at (hw.it _ (.head _)) (o := 0) rfl).1)) (Hfg 14 rfl rfl rfl rfl (OV.indexArrN rfl rfl T.u42 T.z4 (by omega)) (Htg 15 rfl rfl rfl rfl (OV.load1 (v := .bool false) rfl T.u4 rfl (fun _ hw => own_cells hw (.tail _ (.tail _ (.tail _ (.head _)))) ya _ (by rw [kL_get (by omega), decide_eq_false hyn]))) (Hf 16 rfl (OV.pickF rfl rfl) (Hf 17 rfl (OV.move rfl) (Hk (t := 148) (b := false) rfl (by rfl) ?_))))))
    refine Hfg 18 rfl rfl rfl rfl (OV.fieldAddr0 (off := 5) rfl T.u30 rfl) (Htg 19 rfl rfl rfl rfl (OV.load1 (v := .slice q.ba q.bd.length q.bc) rfl T.u27 rfl (fun _ hw => (cell_at (hw.it _ (.tail _ (.tail _ (.tail _ (.tail _ (.tail _ (.head _))))))) (o := 5) rfl).1)) (Hfg 20 rfl rfl rfl rfl (OV.fieldAddr0 (off := 0) rfl T.u41 rfl) (Htg 21 rfl rfl rfl rfl (OV.load1 (v := .int .i64 (ya : Int)) rfl T.u3 rfl (fun _ hw => (cell_at (hw.it _ (.head _)) (o := 0) rfl).1)) (Hfg 22 rfl rfl rfl rfl ((OV.indexSlice (show _ = some (Value.slice (some ⟨bb, 0, none⟩) q.bd.length q.bc) by rw [← hbb]; rfl) rfl T.u27 T.z26 (by omega)).cast (u := .pointer (some ((⟨bb, 0, none⟩ : Addr).add (ya * 5)))) (by rw [Int.toNat_natCast])) (Htg 23 rfl rfl rfl rfl (OV.loadN (cs := atC z.x z.a z.c) rfl T.u26 rfl T.z26 (fun _ hw j v hj => (RC.of_items hw (fun i hi => (.tail _ (.tail _ (.tail _ (.tail _ (.tail _ (.tail _ (.tail _ (List.mem_append_left _ hi)))))))))).bd.at_ _ hbb ya z hz j v hj)) (Hfg 24 rfl rfl rfl rfl (OV.fieldAddr0 (off := 1) rfl T.u41 rfl) (Htg 25 rfl rfl rfl rfl (OV.load1 (v := .slice ka (nI (knownL (stP q.cl lead i).V z.x)).length kc) rfl T.u32 rfl (fun _ hw => (cell_at (hw.it _ (.head _)) (o := 1) rfl).1)) (Htg 26 rfl rfl rfl rfl (OV.loadN (cs := mtL (stP q.cl lead i).V) rfl T.u43 rfl T.z43 (fun _ hw j v hj => by rw [add_off, Nat.zero_add]; exact own_cells hw (.tail _ (.head _)) j v hj)) (Ho 27 rfl (fl' := false) rfl ?_)))))))))
    refine Zg rfl rfl rfl (WL.call0 (v := .bool true) (vs := [atV z.x z.a z.c, .slice ka (nI (knownL (stP q.cl lead i).V z.x)).length kc, .agg (mtL (stP q.cl lead i).V).toArray]) (by kernel_rfl) rfl rfl (fun w' hw' => columns_law z.x hvz z.a z.c (by omega) (stP q.cl lead i).V ka kc w' ((RC.of_items hw' (fun i hi => (.tail _ (.tail _ (.tail _ (.tail _ (.tail _ (.tail _ (.tail _ (List.mem_append_left _ hi)))))))))).bd.args _ (List.mem_of_getElem? hz)) (RI.of_row (c := kc) hw' (.tail _ (.tail _ (.tail _ (.tail _ (.tail _ (.tail _ (.tail _ (List.mem_append_right _ (.tail _ (.tail _ (List.mem_flatMap.2 ⟨_, List.mem_of_getElem? hy, .head _⟩))))))))))))) ?_)
    refine Hc (fun _ => (fun _ h => h)) ?_
    refine Hfg 28 rfl rfl rfl rfl (OV.not rfl) (Hf 29 rfl (OV.pickF rfl rfl) (He (Xn (WC.condF (show _ = some (Value.bool false) from by rfl) ?_))))
    refine Ck (Xn (Csr (Zv (OV.fieldAddr0 (off := 0) rfl T.u41 rfl) (Zv (OV.load1 (v := .int .i64 (ya : Int)) rfl T.u3 rfl (fun _ hw => (cell_at (hw.it _ (.head _)) (o := 0) rfl).1)) (Zv (OV.indexArrN rfl rfl T.u42 T.z4 (by omega)) ?_)))))
    refine WL.focus perm3 (WL.store1 (o := ya) rfl rfl rfl T.z4 (by rw [kL_len]; omega) ?_)
    refine Nn (Cs ?_)
    rw [kL_set (by omega)]
    refine Cr (Zv (OV.fieldAddr0 (off := 5) rfl T.u30 rfl) (Zv (OV.load1 (v := .slice q.ba q.bd.length q.bc) rfl T.u27 rfl (fun _ hw => (cell_at (hw.it _ (.tail _ (.tail _ (.tail _ (.tail _ (.tail _ (.head _))))))) (o := 5) rfl).1)) (Zv (OV.fieldAddr0 (off := 0) rfl T.u41 rfl) (Zv (OV.load1 (v := .int .i64 (ya : Int)) rfl T.u3 rfl (fun _ hw => (cell_at (hw.it _ (.tail _ (.head _))) (o := 0) rfl).1)) (Zv ((OV.indexSlice (show _ = some (Value.slice (some ⟨bb, 0, none⟩) q.bd.length q.bc) by rw [← hbb]; rfl) rfl T.u27 T.z26 (by omega)).cast (u := .pointer (some ((⟨bb, 0, none⟩ : Addr).add (ya * 5)))) (by rw [Int.toNat_natCast])) (Zv (OV.loadN (cs := atC z.x z.a z.c) rfl T.u26 rfl T.z26 (fun _ hw j v hj => (RC.of_items hw (fun i hi => (.tail _ (.tail _ (.tail _ (.tail _ (.tail _ (.tail _ (.tail _ (List.mem_append_left _ hi)))))))))).bd.at_ _ hbb ya z hz j v hj)) (WL.focus perm2 ?_)))))))
    refine WL.callTA (ι := Unit) (vs := [atV z.x z.a z.c, ptr b10]) (vv := fun _ => .tuple #[]) (pp := fun _ => True) [own b10 (.cells (mtL (stP q.cl lead i).V).toArray 43 (0, 0))] (AA := fun _ => [own b10 (.cells (mtL ((stP q.cl lead i).V ++ varsOf z.x)).toArray 43 (0, 0))]) rfl (by kernel_rfl) rfl rfl (fun w' hw' hH => (meet_law z.x hvz z.a z.c (by omega) (stP q.cl lead i).V b10 w' ((RC.of_items (show Sat0 w (own b10 (.cells (mtL (stP q.cl lead i).V).toArray 43 (0, 0)) :: own b8 (.cells (kL ((stP q.cl lead i).jo ++ [ya])).toArray 42 (0, 0)) :: own b14 (.cells (jgC (⟨ya, ka, kc, nI (knownL (stP q.cl lead i).V z.x), ta, tc, nI (stN q.cl lead (stP q.cl lead i)).ts⟩ : JG)).toArray 41 (0, 0)) :: own b9 (.cells (kL (stP q.cl lead i).A).toArray 42 (0, 0)) :: own b6 (.cells (pgC ⟨aa, ac, nI (aheadP q.cl), ja, jc, js⟩).toArray 35 (0, 0)) :: own b5 (.cells (cgC q).toArray 30 (0, 0)) :: own b2 (.cells (cgC g).toArray 30 (0, 0)) :: (cgA q ++ pgA ⟨aa, ac, nI (aheadP q.cl), ja, jc, js⟩)) w' from hw') (fun i hi => (.tail _ (.tail _ (.tail _ (.tail _ (.tail _ (.tail _ (.tail _ (List.mem_append_left _ hi)))))))))).bd.args _ (List.mem_of_getElem? hz)) (fun a ha _ h => (List.pairwise_cons.1 (show Sat0 w (own b10 (.cells (mtL (stP q.cl lead i).V).toArray 43 (0, 0)) :: own b8 (.cells (kL ((stP q.cl lead i).jo ++ [ya])).toArray 42 (0, 0)) :: own b14 (.cells (jgC (⟨ya, ka, kc, nI (knownL (stP q.cl lead i).V z.x), ta, tc, nI (stN q.cl lead (stP q.cl lead i)).ts⟩ : JG)).toArray 41 (0, 0)) :: own b9 (.cells (kL (stP q.cl lead i).A).toArray 42 (0, 0)) :: own b6 (.cells (pgC ⟨aa, ac, nI (aheadP q.cl), ja, jc, js⟩).toArray 35 (0, 0)) :: own b5 (.cells (cgC q).toArray 30 (0, 0)) :: own b2 (.cells (cgC g).toArray 30 (0, 0)) :: (cgA q ++ pgA ⟨aa, ac, nI (aheadP q.cl), ja, jc, js⟩)) w' from hw').disj).1 (argA z) (.tail _ (.tail _ (.tail _ (.tail _ (.tail _ (.tail _ (List.mem_append_left _ (.tail _ (List.mem_append_left _ (.tail _ (List.mem_map.2 ⟨z, List.mem_of_getElem? hz, rfl⟩))))))))))) b10 rfl ⟨a, ha, h⟩) hH).mono (fun en w'' ⟨h1, h2⟩ => ⟨(), h1, trivial, h2⟩)) ?_
    rintro _ _
    refine Nn (Cs (Csr (Za rfl (Nn (Cb ?_)))))
    refine WC.loop1 (fun (k : Nat) => [(5, .pointer (some ⟨b5, 0, none⟩)), (6, .pointer (some ⟨b6, 0, none⟩)), (8, .pointer (some ⟨b8, 0, none⟩)), (9, .pointer (some ⟨b9, 0, none⟩)), (10, .pointer (some ⟨b10, 0, none⟩)), (13, .int .i64 (i : Int)), (14, .pointer (some ⟨b14, 0, none⟩)), (15, .int .i64 (k : Int))])
        (fun k w' => k ≤ (stN q.cl lead (stP q.cl lead i)).ts.length ∧ Sat0 w (own b10 (.cells (mtL ((stP q.cl lead i).V ++ varsOf z.x)).toArray 43 (0, 0)) :: own b8 (.cells (kL ((stP q.cl lead i).jo ++ [ya])).toArray 42 (0, 0)) :: own b14 (.cells (jgC (⟨ya, ka, kc, nI (knownL (stP q.cl lead i).V z.x), ta, tc, nI (stN q.cl lead (stP q.cl lead i)).ts⟩ : JG)).toArray 41 (0, 0)) :: own b9 (.cells (kL ((stP q.cl lead i).A ++ (stN q.cl lead (stP q.cl lead i)).ts.take k)).toArray 42 (0, 0)) :: own b6 (.cells (pgC ⟨aa, ac, nI (aheadP q.cl), ja, jc, js⟩).toArray 35 (0, 0)) :: own b5 (.cells (cgC q).toArray 30 (0, 0)) :: own b2 (.cells (cgC g).toArray 30 (0, 0)) :: (cgA q ++ pgA ⟨aa, ac, nI (aheadP q.cl), ja, jc, js⟩)) w')
        (fun k => (stN q.cl lead (stP q.cl lead i)).ts.length - k) 0 ⟨rfl, rfl, rfl, rfl, rfl, rfl, rfl, rfl, trivial⟩ (fun w' hw => ⟨by omega, by
          rw [List.take_zero, List.append_nil]; exact hw⟩) ?_
    have htl2 : (nI (stN q.cl lead (stP q.cl lead i)).ts).length = (stN q.cl lead (stP q.cl lead i)).ts.length := List.length_map _
    have htl3 : (stN q.cl lead (stP q.cl lead i)).ts.length ≤ q.ts.length := range_f_len _ _
    intro k
    refine WC.pure (fun hk => ?_)
    refine Cs (Csr (Zm rfl (Zv (OV.fieldAddr0 (off := 2) rfl T.u41 rfl) (Zv (OV.load1 (v := .slice ta (nI (stN q.cl lead (stP q.cl lead i)).ts).length tc) rfl T.u32 rfl (fun _ hw => (cell_at (hw.it _ (.tail _ (.tail _ (.head _)))) (o := 2) rfl).1)) (Zv (OV.lenSlice rfl T.u32) (Zv (OV.lss rfl rfl) (Nn ?_)))))))
    refine Cc rfl (fun c175 => ?_) (fun c175 => ?_)
    · refine Ck (Xn (Cs (Cb (Cs ?_))))
      obtain ⟨n, hn⟩ : ∃ n, (stN q.cl lead (stP q.cl lead i)).ts[k]? = some n := ⟨_, List.getElem?_eq_getElem (by omega)⟩
      obtain ⟨hnt0, hnA⟩ := ts_new n (List.mem_of_getElem? hn)
      have hnt : n < q.ts.length := hnt0
      have hnn : n ∉ (stP q.cl lead i).A ++ (stN q.cl lead (stP q.cl lead i)).ts.take k := fun h => by
        rcases List.mem_append.1 h with h | h
        · exact hnA h
        · exact nodup_take ts_nodup hn h
      refine Cr (Zv (OV.fieldAddr0 (off := 2) rfl T.u41 rfl) (Zv (OV.load1 (v := .slice ta (nI (stN q.cl lead (stP q.cl lead i)).ts).length tc) rfl T.u32 rfl (fun _ hw => (cell_at (hw.it _ (.tail _ (.tail _ (.head _)))) (o := 2) rfl).1)) (Zm rfl ?_)))
      refine WL.know (fun w' hw' => row_addrK (hw'.it (rowI ta tc (nI (stN q.cl lead (stP q.cl lead i)).ts)) (.tail _ (.tail _ (.tail _ (.tail _ (.tail _ (.tail _ (.tail _ (List.mem_append_right _ (.tail _ (.tail _ (List.mem_flatMap.2 ⟨_, List.mem_of_getElem? hy, .tail _ (.head _)⟩)))))))))))) (by omega)) (fun hqq => ?_)
      obtain ⟨bs, hbs⟩ := hqq
      refine Zv (OV.indexSliceN (show _ = some (Value.slice (some ⟨bs, 0, none⟩) (nI (stN q.cl lead (stP q.cl lead i)).ts).length tc) by rw [← hbs]; rfl) rfl T.u32 T.z3 (by omega)) (Zv (OV.load1 (v := .int .i64 (n : Int)) rfl T.u3 rfl (fun _ hw => by have h := row_cellsE hw hbs (.tail _ (.tail _ (.tail _ (.tail _ (.tail _ (.tail _ (.tail _ (List.mem_append_right _ (.tail _ (.tail _ (List.mem_flatMap.2 ⟨_, List.mem_of_getElem? hy, .tail _ (.head _)⟩))))))))))) k _ (nI_at hn); rwa [add_off, Nat.zero_add] at h)) (Za rfl (Nn (Cs (Csr (Zm rfl (Zv ((OV.lss rfl rfl).cast (u := .bool false) (congrArg Value.bool (decide_eq_false (by omega)))) (Zm rfl (WL.known (t := 185) (b := false) rfl (by rfl) ?_)))))))))
      refine Zg rfl rfl rfl (Zm rfl (Zg rfl rfl rfl (Zv (OV.fieldAddr0 (off := 6) rfl T.u30 rfl) (Zg rfl rfl rfl (Zv (OV.load1 (v := .slice q.ta q.ts.length q.tc) rfl T.u28 rfl (fun _ hw => (cell_at (hw.it _ (.tail _ (.tail _ (.tail _ (.tail _ (.tail _ (.head _))))))) (o := 6) rfl).1)) (Zg rfl rfl rfl (Zv (OV.lenSlice rfl T.u28) (Zg rfl rfl rfl (Zv ((OV.geq rfl rfl).cast (u := .bool false) (congrArg Value.bool (decide_eq_false (by omega)))) (Zv (OV.pickF rfl rfl) (Zm rfl (WL.known (t := 192) (b := false) rfl (by rfl) ?_))))))))))))
      refine Zg rfl rfl rfl (Zm rfl (Zg rfl rfl rfl (Zv (OV.indexArrN rfl rfl T.u42 T.z4 (by omega)) (Zg rfl rfl rfl (Zv (OV.load1 (v := .bool false) rfl T.u4 rfl (fun _ hw => own_cells hw (.tail _ (.tail _ (.tail _ (.head _)))) n _ (by rw [kL_get (by omega), decide_eq_false hnn]))) (Zv (OV.pickF rfl rfl) (Nn (WC.condF (show _ = some (Value.bool false) from by rfl) ?_))))))))
      refine Ck (Xn (Cr (Zm rfl (Zv (OV.indexArrN rfl rfl T.u42 T.z4 (by omega)) ?_))))
      refine WL.focus perm3 (WL.store1 (o := n) rfl rfl rfl T.z4 (by rw [kL_len]; omega) ?_)
      refine Nl (Xb (Xn (Cr (Zm rfl (Zv (OV.addN (j := 1) rfl rfl (by omega)) (Za rfl (Nl ?_)))))))
      rw [kL_set (by omega), List.append_assoc, ← tk_snoc hn]
      exact WX.round1 (k + 1) ⟨rfl, rfl, rfl, rfl, rfl, rfl, rfl, rfl, trivial⟩ (fun w' hw => ⟨by omega, hw.pick [[own b9 (.cells (kL ((stP q.cl lead i).A ++ (stN q.cl lead (stP q.cl lead i)).ts.take (k + 1))).toArray 42 (0, 0))], [own b10 (.cells (mtL ((stP q.cl lead i).V ++ varsOf z.x)).toArray 43 (0, 0))], [own b8 (.cells (kL ((stP q.cl lead i).jo ++ [ya])).toArray 42 (0, 0))], [own b14 (.cells (jgC (⟨ya, ka, kc, nI (knownL (stP q.cl lead i).V z.x), ta, tc, nI (stN q.cl lead (stP q.cl lead i)).ts⟩ : JG)).toArray 41 (0, 0))], [own b6 (.cells (pgC ⟨aa, ac, nI (aheadP q.cl), ja, jc, js⟩).toArray 35 (0, 0))], [own b5 (.cells (cgC q).toArray 30 (0, 0))], [own b2 (.cells (cgC g).toArray 30 (0, 0))], (cgA q ++ pgA ⟨aa, ac, nI (aheadP q.cl), ja, jc, js⟩)] [1, 2, 3, 0, 4, 5, 6, 7] 8 rfl (by decide) (by decide)⟩) (by show (stN q.cl lead (stP q.cl lead i)).ts.length - (k + 1) < (stN q.cl lead (stP q.cl lead i)).ts.length - k; omega)
    refine Ce (Xe (Xe (Xh (Xn (Csr (Za rfl (Nn (Cb ?_))))))))
    obtain rfl : k = (stN q.cl lead (stP q.cl lead i)).ts.length := by omega
    rw [List.take_length, ← hA1, ← hV1, ← hJ1]
    have hst1 := stP_ok hld (i + 1) (by omega)
    refine WC.loop1 (fun (n : Nat) => [(5, .pointer (some ⟨b5, 0, none⟩)), (6, .pointer (some ⟨b6, 0, none⟩)), (8, .pointer (some ⟨b8, 0, none⟩)), (9, .pointer (some ⟨b9, 0, none⟩)), (10, .pointer (some ⟨b10, 0, none⟩)), (13, .int .i64 (i : Int)), (17, .int .i64 (n : Int))])
        (fun n w' => n ≤ q.ts.length ∧ Sat0 w (own b10 (.cells (mtL (stP q.cl lead (i + 1)).V).toArray 43 (0, 0)) :: own b8 (.cells (kL (stP q.cl lead (i + 1)).jo).toArray 42 (0, 0)) :: own b14 (.cells (jgC (⟨ya, ka, kc, nI (knownL (stP q.cl lead i).V z.x), ta, tc, nI (stN q.cl lead (stP q.cl lead i)).ts⟩ : JG)).toArray 41 (0, 0)) :: own b9 (.cells (kL (stP q.cl lead (i + 1)).A).toArray 42 (0, 0)) :: own b6 (.cells (pgC ⟨aa, ac, nI (aheadP q.cl), ja, jc, js⟩).toArray 35 (0, 0)) :: own b5 (.cells (cgC q).toArray 30 (0, 0)) :: own b2 (.cells (cgC g).toArray 30 (0, 0)) :: (cgA q ++ pgA ⟨aa, ac, nI (aheadP q.cl), ja, jc, js⟩)) w')
        (fun n => q.ts.length - n) 0 ⟨rfl, rfl, rfl, rfl, rfl, rfl, rfl, trivial⟩ (fun w' hw => ⟨by omega, hw⟩) ?_
    intro n
    refine WC.pure (fun hn => ?_)
    refine Cs (Csr (Zm rfl (Zv (OV.fieldAddr0 (off := 6) rfl T.u30 rfl) (Zv (OV.load1 (v := .slice q.ta q.ts.length q.tc) rfl T.u28 rfl (fun _ hw => (cell_at (hw.it _ (.tail _ (.tail _ (.tail _ (.tail _ (.tail _ (.head _))))))) (o := 6) rfl).1)) (Zv (OV.lenSlice rfl T.u28) (Zv (OV.lss rfl rfl) (Nn ?_)))))))
    refine Cc rfl (fun c203 => ?_) (fun c203 => ?_)
    · refine Ck (Xn (Cs (Cb (Cs ?_))))
      obtain ⟨t, ht⟩ : ∃ t, q.ts[n]? = some t := ⟨_, List.getElem?_eq_getElem (by omega)⟩
      have hvt := hv.vtT (u := t) (List.mem_of_getElem? ht)
      have hrd : decide (n ∈ (stP q.cl lead (i + 1)).A) = (knB (stP q.cl lead (i + 1)).V t.l && knB (stP q.cl lead (i + 1)).V t.r) := by
        rw [← clT_cg ht, Bool.eq_iff_iff, decide_eq_true_eq]
        exact (hst1.hA n (by show n < q.ts.length; omega)).symm
      refine WC.know (fun w' hw' => row_addrK (hw'.it (rowS q.ta q.tc q.ts) (.tail _ (.tail _ (.tail _ (.tail _ (.tail _ (.tail _ (.tail _ (List.mem_append_left _ (.tail _ (List.mem_append_right _ (.head _)))))))))))) (by omega)) (fun hqq => ?_)
      obtain ⟨bt, hbt⟩ := hqq
      refine Hq [] (m := 22) rfl ?_
      refine Hf 0 rfl (OV.move rfl) (Hf 1 rfl (OV.indexArrN rfl rfl T.u42 T.z4 (by omega)) (Ht 2 rfl (OV.load1 (v := .bool (decide (n ∈ (stP q.cl lead (i + 1)).A))) rfl T.u4 rfl (fun _ hw => own_cells hw (.tail _ (.tail _ (.tail _ (.head _)))) n _ (by rw [kL_get (by omega)]))) (Hf 3 rfl (OV.fieldAddr0 (off := 6) rfl T.u30 rfl) (Ht 4 rfl (OV.load1 (v := .slice q.ta q.ts.length q.tc) rfl T.u28 rfl (fun _ hw => (cell_at (hw.it _ (.tail _ (.tail _ (.tail _ (.tail _ (.tail _ (.head _))))))) (o := 6) rfl).1)) (Hf 5 rfl (OV.move rfl) (Hf 6 rfl ((OV.indexSlice (show _ = some (Value.slice (some ⟨bt, 0, none⟩) q.ts.length q.tc) by rw [← hbt]; rfl) rfl T.u28 T.z45 (by omega)).cast (u := .pointer (some ((⟨bt, 0, none⟩ : Addr).add (n * 7)))) (by rw [Int.toNat_natCast])) (Hf 7 rfl ((OV.fieldAddrA (off := 1) rfl T.u45 rfl).cast (u := .pointer (some (((⟨bt, 0, none⟩ : Addr).add (n * 7)).add 1))) (rfl)) (Ht 8 rfl (OV.loadN (cs := tmC t.l) rfl T.u23 rfl T.z23 (fun _ hw j v hj => el_part ((RS.of_row hw (.tail _ (.tail _ (.tail _ (.tail _ (.tail _ (.tail _ (.tail _ (List.mem_append_left _ (.tail _ (List.mem_append_right _ (.head _)))))))))))).at_ _ hbt n t ht) (o := 1) (cs' := tmC t.l) rfl j v hj)) (Ht 9 rfl (OV.loadN (cs := mtL (stP q.cl lead (i + 1)).V) rfl T.u43 rfl T.z43 (fun _ hw j v hj => by rw [add_off, Nat.zero_add]; exact own_cells hw (.head _) j v hj)) (Ho 10 rfl (fl' := false) rfl ?_))))))))))
      refine WL.call0 (v := .bool (knB (stP q.cl lead (i + 1)).V t.l)) (vs := [tmV t.l, .agg (mtL (stP q.cl lead (i + 1)).V).toArray]) (by kernel_rfl) rfl rfl (fun w' hw' => known_law t.l hvt.1 (stP q.cl lead (i + 1)).V w') ?_
      refine Hc (fun _ => (fun _ h => h)) ?_
      refine Hf 11 rfl (OV.move rfl) ?_
      refine Hp (t := 217) rfl (fun g217 => ?_) (fun g217 => ?_)
      · refine Hfg 12 rfl rfl rfl rfl (OV.fieldAddr0 (off := 6) rfl T.u30 rfl) (Htg 13 rfl rfl rfl rfl (OV.load1 (v := .slice q.ta q.ts.length q.tc) rfl T.u28 rfl (fun _ hw => (cell_at (hw.it _ (.tail _ (.tail _ (.tail _ (.tail _ (.tail _ (.head _))))))) (o := 6) rfl).1)) (Hfg 14 rfl rfl rfl rfl (OV.move rfl) (Hfg 15 rfl rfl rfl rfl ((OV.indexSlice (show _ = some (Value.slice (some ⟨bt, 0, none⟩) q.ts.length q.tc) by rw [← hbt]; rfl) rfl T.u28 T.z45 (by omega)).cast (u := .pointer (some ((⟨bt, 0, none⟩ : Addr).add (n * 7)))) (by rw [Int.toNat_natCast])) (Hfg 16 rfl rfl rfl rfl ((OV.fieldAddrA (off := 4) rfl T.u45 rfl).cast (u := .pointer (some (((⟨bt, 0, none⟩ : Addr).add (n * 7)).add 4))) (rfl)) (Htg 17 rfl rfl rfl rfl (OV.loadN (cs := tmC t.r) rfl T.u23 rfl T.z23 (fun _ hw j v hj => el_part ((RS.of_row hw (.tail _ (.tail _ (.tail _ (.tail _ (.tail _ (.tail _ (.tail _ (List.mem_append_left _ (.tail _ (List.mem_append_right _ (.head _)))))))))))).at_ _ hbt n t ht) (o := 4) (cs' := tmC t.r) rfl j v hj)) (Htg 18 rfl rfl rfl rfl (OV.loadN (cs := mtL (stP q.cl lead (i + 1)).V) rfl T.u43 rfl T.z43 (fun _ hw j v hj => by rw [add_off, Nat.zero_add]; exact own_cells hw (.head _) j v hj)) (Ho 19 rfl (fl' := false) rfl ?_)))))))
        refine Zg rfl rfl rfl (WL.call0 (v := .bool (knB (stP q.cl lead (i + 1)).V t.r)) (vs := [tmV t.r, .agg (mtL (stP q.cl lead (i + 1)).V).toArray]) (by kernel_rfl) rfl rfl (fun w' hw' => known_law t.r hvt.2 (stP q.cl lead (i + 1)).V w') ?_)
        refine Hc (fun _ => (fun _ h => h)) ?_
        refine Hf 20 rfl (OV.pickT rfl rfl) (Hf 21 rfl ((OV.neqB T.u4 rfl rfl).cast (u := .bool false) (by rw [hrd, g217, Bool.true_and]; simp)) (He (Xn (WC.condF (show _ = some (Value.bool false) from by rfl) ?_))))
        refine Ck (Xb (Xn (Cr (Zm rfl (Zv (OV.addN (j := 1) rfl rfl (by omega)) (Za rfl (Nl ?_)))))))
        exact WX.round1 (n + 1) ⟨rfl, rfl, rfl, rfl, rfl, rfl, rfl, trivial⟩ (fun w' hw => ⟨by omega, hw⟩) (by show q.ts.length - (n + 1) < q.ts.length - n; omega)
      refine Hs 12 rfl rfl rfl rfl (Hs 13 rfl rfl rfl rfl (Hs 14 rfl rfl rfl rfl (Hs 15 rfl rfl rfl rfl (Hs 16 rfl rfl rfl rfl (Hs 17 rfl rfl rfl rfl (Hs 18 rfl rfl rfl rfl (Ho 19 rfl (fl' := false) rfl ?_)))))))
      refine Zs rfl rfl rfl (Hc (fun _ => (fun _ h => h)) ?_)
      refine Hf 20 rfl (OV.pickF rfl rfl) (Hf 21 rfl ((OV.neqB T.u4 rfl rfl).cast (u := .bool false) (by rw [hrd, g217, Bool.false_and]; rfl)) (He (Xn (WC.condF (show _ = some (Value.bool false) from by rfl) ?_))))
      refine Ck (Xb (Xn (Cr (Zm rfl (Zv (OV.addN (j := 1) rfl rfl (by omega)) (Za rfl (Nl ?_)))))))
      exact WX.round1 (n + 1) ⟨rfl, rfl, rfl, rfl, rfl, rfl, rfl, trivial⟩ (fun w' hw => ⟨by omega, hw⟩) (by show q.ts.length - (n + 1) < q.ts.length - n; omega)
    refine Ce (Xe (Xe (Xh (Xb (Xn (Cr (Zm rfl (Zv (OV.addN (j := 1) rfl rfl (by omega)) (Za rfl (Nl ?_))))))))))
    exact WX.round1 (i + 1) ⟨rfl, rfl, rfl, rfl, rfl, rfl, trivial⟩ (fun w' hw => ⟨by omega, hw.pick [[own b10 (.cells (mtL (stP q.cl lead (i + 1)).V).toArray 43 (0, 0))], [own b8 (.cells (kL (stP q.cl lead (i + 1)).jo).toArray 42 (0, 0))], [own b14 (.cells (jgC (⟨ya, ka, kc, nI (knownL (stP q.cl lead i).V z.x), ta, tc, nI (stN q.cl lead (stP q.cl lead i)).ts⟩ : JG)).toArray 41 (0, 0))], [own b9 (.cells (kL (stP q.cl lead (i + 1)).A).toArray 42 (0, 0))], [own b6 (.cells (pgC ⟨aa, ac, nI (aheadP q.cl), ja, jc, js⟩).toArray 35 (0, 0))], [own b5 (.cells (cgC q).toArray 30 (0, 0))], [own b2 (.cells (cgC g).toArray 30 (0, 0))], (cgA q ++ pgA ⟨aa, ac, nI (aheadP q.cl), ja, jc, js⟩)] [0, 3, 1, 4, 5, 6, 7] 8 rfl (by decide) (by decide)⟩) (by show q.bd.length - (i + 1) < q.bd.length - i; omega)
  refine Ce (Xe (Xe (Xh (Xn (Cs (Csr (Za rfl (Nn (Cb ?_)))))))))
  obtain rfl : i = q.bd.length := by omega
  have hall : ∀ k, k < q.ts.length → k ∈ (stP q.cl lead q.bd.length).A := fun k hk => by
    have h := all_asked hv hld hk
    rwa [hqb] at h
  refine WC.loop1 (fun (n : Nat) => [(5, .pointer (some ⟨b5, 0, none⟩)), (6, .pointer (some ⟨b6, 0, none⟩)), (8, .pointer (some ⟨b8, 0, none⟩)), (9, .pointer (some ⟨b9, 0, none⟩)), (10, .pointer (some ⟨b10, 0, none⟩)), (18, .int .i64 (n : Int))])
      (fun n w' => n ≤ q.ts.length ∧ Sat0 w (own b10 (.cells (mtL (stP q.cl lead q.bd.length).V).toArray 43 (0, 0)) :: own b9 (.cells (kL (stP q.cl lead q.bd.length).A).toArray 42 (0, 0)) :: own b8 (.cells (kL (stP q.cl lead q.bd.length).jo).toArray 42 (0, 0)) :: own b6 (.cells (pgC ⟨aa, ac, nI (aheadP q.cl), ja, jc, js⟩).toArray 35 (0, 0)) :: own b5 (.cells (cgC q).toArray 30 (0, 0)) :: own b2 (.cells (cgC g).toArray 30 (0, 0)) :: (cgA q ++ pgA ⟨aa, ac, nI (aheadP q.cl), ja, jc, js⟩)) w')
      (fun n => q.ts.length - n) 0 ⟨rfl, rfl, rfl, rfl, rfl, rfl, trivial⟩ (fun w' hw => ⟨by omega, hw⟩) ?_
  intro n
  refine WC.pure (fun hn => ?_)
  refine Cs (Csr (Zm rfl (Zv (OV.fieldAddr0 (off := 6) rfl T.u30 rfl) (Zv (OV.load1 (v := .slice q.ta q.ts.length q.tc) rfl T.u28 rfl (fun _ hw => (cell_at (hw.it _ (.tail _ (.tail _ (.tail _ (.tail _ (.head _)))))) (o := 6) rfl).1)) (Zv (OV.lenSlice rfl T.u28) (Zv (OV.lss rfl rfl) (Nn ?_)))))))
  refine Cc rfl (fun c232 => ?_) (fun c232 => ?_)
  · refine Ck (Xn (Cs (Cb (Csr (Zm rfl (Zv (OV.indexArrN rfl rfl T.u42 T.z4 (by omega)) (Zv (OV.load1 (v := .bool true) rfl T.u4 rfl (fun _ hw => own_cells hw (.tail _ (.head _)) n _ (by rw [kL_get (by omega), decide_eq_true (hall n (by omega))]))) (Zv (OV.not rfl) (Nn (WC.condF (show _ = some (Value.bool false) from by rfl) ?_))))))))))
    refine Ck (Xb (Xn (Cr (Zm rfl (Zv (OV.addN (j := 1) rfl rfl (by omega)) (Za rfl (Nl ?_)))))))
    exact WX.round1 (n + 1) ⟨rfl, rfl, rfl, rfl, rfl, rfl, trivial⟩ (fun w' hw => ⟨by omega, hw⟩) (by show q.ts.length - (n + 1) < q.ts.length - n; omega)
  refine Ce (Xe (Xe (Xh (Xn (Csr (WL.call0 (v := .bool true) (vs := []) (by kernel_rfl) rfl rfl (fun w' hw' => first_calls w' (hN.keeps hw'.keeps) (hC.keeps hw'.keeps)) ?_))))))
  refine Za rfl (Nn (WC.ret ?_))
  exact WX.ret1 rfl rfl rfl (fun w' hw => ⟨rfl, hw.fr⟩)

theorem planOrders_calls (g : CG) (hs : ∀ y, y = g.hd ∨ y ∈ g.bd → y.x.args.length ≤ 1048576 ∧ y.x.name.size ≤ 1099511627776) (hbl : g.bd.length ≤ 1048576) (htl : g.ts.length ≤ 1048576) (lead : Int) (w : World) (hN : NoneAt w) (hC : ChksAt w) (hr : RC w g) : Calls Tryz.prog 3 #[cgV g, .int .i64 lead] w fun e w' => e = .returned (.bool true) ∧ Fr0 w w' := by
  by_cases h : lead < -1 ∨ ((madeC g.cl).bd.length : Int) ≤ lead
  · exact orders_bad g hs hbl htl lead h w hN hC hr
  · obtain ⟨l, rfl, hl⟩ := lead_cases lead _ h
    exact orders_good g hs hbl htl l hl w hN hC hr

end Go.Proofs.YtpgpkjbahlmgeaaGreatDoor
