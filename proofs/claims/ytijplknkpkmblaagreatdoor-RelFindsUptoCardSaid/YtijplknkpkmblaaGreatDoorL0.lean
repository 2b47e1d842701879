/- Contracts of functions of the program: what each returns and leaves in memory. Printed by gen.py and walk.py. -/
import Derived.Test.YtijplknkpkmblaaGreatDoorK9
namespace Go.Proofs.YtijplknkpkmblaaGreatDoor
open Go Go.Hw
set_option linter.unusedSimpArgs false
set_option linter.unusedVariables false
/-- The rows and their parts. -/
def rp (g : RelG) : List (List Int × Nat) := g.es.map fun e => (e.row, e.part)
def addRP (width : Nat) (L : List (List Int × Nat)) (l : List Int) : List (List Int × Nat) := if l.length = width ∧ l ∉ L.map (·.1) then L ++ [(l, 4)] else L
def addV (width : Nat) (L : List (List Int × Nat)) (l : List Int) : Bool := decide (l.length = width ∧ l ∉ L.map (·.1))
def addE (width : Nat) (l : List Int) : Int := if l.length = width then 0 else 71
/-- What was there is there still: the rows (in some part) and the columns. -/
structure RelLe (g g' : RelG) : Prop where
  r : g'.r = g.r
  width : g'.width = g.width
  es : ∀ e ∈ g.es, ∃ e' ∈ g'.es, e'.p = e.p ∧ e'.a = e.a ∧ e'.c = e.c ∧ e'.row = e.row
  cols : ∀ c ∈ g.cols, c ∈ g'.cols
theorem RelLe.refl (g : RelG) : RelLe g g := ⟨rfl, rfl, fun e he => ⟨e, he, rfl, rfl, rfl, rfl⟩, fun _ h => h⟩
theorem RelLe.trans {a b c : RelG} (h : RelLe a b) (k : RelLe b c) : RelLe a c :=
  ⟨k.r.trans h.r, k.width.trans h.width, fun e he => by
    obtain ⟨e1, h1, a1, a2, a3, a4⟩ := h.es e he
    obtain ⟨e2, h2, b1, b2, b3, b4⟩ := k.es e1 h1
    exact ⟨e2, h2, b1.trans a1, b2.trans a2, b3.trans a3, b4.trans a4⟩, fun x hx => k.cols x (h.cols x hx)⟩
theorem turn_le (g : RelG) : RelLe g (turnG g) := ⟨rfl, rfl, fun e he => ⟨turnE e, List.mem_map.2 ⟨e, he, rfl⟩, rfl, rfl, rfl, rfl⟩, fun _ h => h⟩
/-- An entry and its place in every index. -/
structure IxStep (e : Ent) (x x' : Idx) : Prop where
  p : x'.p = x.p
  mb : x'.mb = x.mb
  col : x'.col = x.col
theorem mem_rp {g : RelG} {l : List Int} : l ∈ (rp g).map (·.1) ↔ ∃ e ∈ g.es, e.row = l := by
  simp [rp]
def addG (g : RelG) (e : Ent) (na : Option Addr) (nc : Nat) (ix : List Idx) : RelG := { g with es := g.es ++ [e], na := na, nc := nc, ns := g.ns ++ [e.p], ix := ix }
structure Ixs (e : Ent) (ix : List Idx) (vis : List Nat) (ix' : List Idx) : Prop where
  len : ix'.length = ix.length
  at_ : ∀ j x, ix[j]? = some x → ∃ x', ix'[j]? = some x' ∧ x'.p = x.p ∧ x'.mb = x.mb ∧ x'.col = x.col ∧ (j ∈ vis → ∃ a c, x'.gs = gadd x.gs (ixKey x.col e) e.p a c) ∧ (j ∉ vis → x'.gs = x.gs)
theorem Ixs.start (e : Ent) (ix : List Idx) : Ixs e ix [] ix := ⟨rfl, fun j x hx => ⟨x, hx, rfl, rfl, rfl, fun h => (by cases h), fun _ => rfl⟩⟩
theorem Ixs.ixM {e : Ent} {ix ix' : List Idx} {vis : List Nat} (h : Ixs e ix vis ix') : ixM ix' = ixM ix := by
  apply List.ext_getElem?
  intro j
  show ((ix'.map fun x => (keyB x.col.l, ptr x.p)))[j]? = ((ix.map fun x => (keyB x.col.l, ptr x.p)))[j]?
  simp only [List.getElem?_map]
  cases hx : ix[j]? with
  | none =>
    have : ix'[j]? = none := by
      rw [List.getElem?_eq_none_iff] at hx ⊢
      rw [h.len]; exact hx
    rw [this]
  | some x =>
    obtain ⟨x', h1, h2, _, h4, _⟩ := h.at_ j x hx
    rw [h1]
    simp [h2, h4]
theorem Ixs.step {e : Ent} {ix m1 m2 : List Idx} {x : Idx} {vis : List Nat} {a : Option Addr} {c : Nat} (h : Ixs e ix vis (m1 ++ x :: m2)) (hv : m1.length ∉ vis) : Ixs e ix (vis ++ [m1.length]) (m1 ++ { x with gs := gadd x.gs (ixKey x.col e) e.p a c } :: m2) := by
  refine ⟨by rw [← h.len]; simp, fun j y hy => ?_⟩
  obtain ⟨x', h1, h2, h3, h4, h5, h6⟩ := h.at_ j y hy
  by_cases hj : j = m1.length
  · subst hj
    rw [List.getElem?_append_right (Nat.le_refl _), Nat.sub_self] at h1
    simp only [List.getElem?_cons_zero, Option.some.injEq] at h1
    subst h1
    refine ⟨{ x with gs := gadd x.gs (ixKey x.col e) e.p a c }, by rw [List.getElem?_append_right (Nat.le_refl _), Nat.sub_self]; rfl, h2, h3, h4, fun _ => ⟨a, c, ?_⟩, fun hh => absurd (by simp) hh⟩
    have h7 := h6 hv
    show gadd x.gs (ixKey x.col e) e.p a c = _
    rw [h7, h4]
  · refine ⟨x', ?_, h2, h3, h4, fun hm => h5 ?_, fun hm => h6 ?_⟩
    · rcases Nat.lt_or_ge j m1.length with hlt | hge
      · rw [List.getElem?_append_left hlt] at h1 ⊢; exact h1
      · rw [List.getElem?_append_right hge] at h1 ⊢
        obtain ⟨k, hk⟩ : ∃ k, j - m1.length = k + 1 := ⟨j - m1.length - 1, by omega⟩
        rw [hk] at h1 ⊢
        simpa using h1
    · simpa [hj] using hm
    · simpa [hj] using hm
def unseen (n : Nat) (vis : List Nat) : Nat := ((List.range n).filter fun j => !vis.contains j).length
theorem unseen_lt {n i : Nat} {vis : List Nat} (hi : i < n) (hv : i ∉ vis) : unseen n (vis ++ [i]) < unseen n vis := by
  unfold unseen
  have hsub : ((List.range n).filter fun j => !(vis ++ [i]).contains j) = ((List.range n).filter fun j => !vis.contains j).filter fun j => j ≠ i := by
    rw [List.filter_filter]
    apply List.filter_congr
    intro j _
    by_cases h : j = i <;> simp [h]
  rw [hsub]
  refine List.length_filter_lt_length_iff_exists.2 ⟨i, ?_, by simp⟩
  rw [List.mem_filter]
  exact ⟨List.mem_range.2 hi, by simpa using hv⟩
theorem perm_deep {X : List Hw.Item} {es : List Ent} {e : Ent} {k1 k2 : List Col} {c : Col} {m1 m2 : List Idx} {x : Idx} :
    ((idxA x ++ (entA e ++ colA c)) ++ (X ++ tailA es (k1 ++ k2) (m1 ++ m2))).Perm (X ++ tailA (es ++ [e]) (k1 ++ c :: k2) (m1 ++ x :: m2)) := by
  have h1 : (idxA x ++ (entA e ++ (colA c ++ tailA es (k1 ++ k2) (m1 ++ m2)))).Perm (tailA (es ++ [e]) (k1 ++ c :: k2) (m1 ++ x :: m2)) := by
    refine List.Perm.trans ?_ (tail_idx _ _ m1 m2 x)
    refine List.Perm.append_left _ ?_
    have h2 := tail_ent es [] e (k1 ++ c :: k2) (m1 ++ m2)
    rw [List.append_nil] at h2
    refine List.Perm.trans (List.Perm.append_left _ ?_) h2
    exact tail_col es k1 k2 c _
  refine List.Perm.trans ?_ (List.Perm.append_left _ h1)
  have e1 : (idxA x ++ (entA e ++ colA c)) ++ (X ++ tailA es (k1 ++ k2) (m1 ++ m2)) = (idxA x ++ (entA e ++ colA c)) ++ (X ++ tailA es (k1 ++ k2) (m1 ++ m2)) := rfl
  have e2 : idxA x ++ (entA e ++ (colA c ++ tailA es (k1 ++ k2) (m1 ++ m2))) = (idxA x ++ (entA e ++ colA c)) ++ tailA es (k1 ++ k2) (m1 ++ m2) := by simp
  rw [e2]
  exact app_swap
theorem counts_snoc (es : List Ent) (e : Ent) (h : e.part = 4) : (counts es).set 4 ((cnt es 4 : Int) + 1) = counts (es ++ [e]) := by
  apply List.ext_getElem?
  intro i
  by_cases hi : i < 8
  · rw [counts_get hi, List.getElem?_set, counts_get hi, cnt_append]
    simp only [counts_length]
    by_cases h1 : 4 = i
    · subst h1
      simp [cnt, h]
    · simp [h1, cnt, h]
  · rw [List.getElem?_eq_none (by simp [counts]; omega), List.getElem?_eq_none (by simp [counts]; omega)]
theorem rowsM_snoc {es : List Ent} {e : Ent} (h : ∀ x ∈ es, x.row ≠ e.row) : ups (rowsM es) (keyB e.row) (ptr e.p) = rowsM (es ++ [e]) := by
  rw [ups_new]
  · simp [rowsM]
  · intro q hq
    obtain ⟨x, hx, rfl⟩ := List.mem_map.1 hq
    exact fun hh => h x hx (keyB_inj hh)
theorem addG_ok {g : RelG} (ok : RelOK g) {e : Ent} {na : Option Addr} {nc : Nat} {ix : List Idx} (hw : e.row.length = g.width) (hi : i64s e.row) (hp : e.part = 4) (hr : ∀ x ∈ g.es, x.row ≠ e.row) (hpp : ∀ x ∈ g.es, x.p ≠ e.p) (hl : g.es.length < 1099511627776) (hl2 : e.row.length ≤ 1099511627776)
    {vis : List Nat} (hix : Ixs e g.ix vis ix) (hall : ∀ i, i < g.ix.length → i ∈ vis) : RelOK (addG g e na nc ix) where
  wid x hx := by
    rcases List.mem_append.1 hx with h | h
    · exact ok.wid x h
    · simp only [List.mem_singleton] at h; subst h; exact hw
  i64 x hx := by
    rcases List.mem_append.1 hx with h | h
    · exact ok.i64 x h
    · simp only [List.mem_singleton] at h; subst h; exact hi
  part x hx := by
    rcases List.mem_append.1 hx with h | h
    · exact ok.part x h
    · simp only [List.mem_singleton] at h; subst h; exact .inr (.inr hp)
  rows := by
    show ((g.es ++ [e]).map (·.row)).Nodup
    rw [List.map_append, List.nodup_append]
    refine ⟨ok.rows, by simp, fun a ha b hb => ?_⟩
    obtain ⟨x, hx, rfl⟩ := List.mem_map.1 ha
    simp only [List.map_cons, List.map_nil, List.mem_singleton] at hb
    subst hb
    exact hr x hx
  ptrs := by
    show ((g.es ++ [e]).map (·.p)).Nodup
    rw [List.map_append, List.nodup_append]
    refine ⟨ok.ptrs, by simp, fun a ha b hb => ?_⟩
    obtain ⟨x, hx, rfl⟩ := List.mem_map.1 ha
    simp only [List.map_cons, List.map_nil, List.mem_singleton] at hb
    subst hb
    exact hpp x hx
  fs := by
    show g.fs = ((g.es ++ [e]).filter fun e => e.part = 2).map (·.p)
    rw [List.filter_append, ok.fs]
    simp [hp]
  ns := by
    show g.ns ++ [e.p] = ((g.es ++ [e]).filter fun e => e.part = 4).map (·.p)
    rw [List.filter_append, ok.ns]
    simp [hp]
  cols := ok.cols
  ixc x hx := by
    obtain ⟨j, hj⟩ := List.mem_iff_getElem?.1 hx
    have hjl : j < g.ix.length := by have h2 := (List.getElem?_eq_some_iff.1 hj).1; rw [← hix.len]; exact h2
    obtain ⟨x', h1, _, _, h4, _⟩ := hix.at_ j _ (List.getElem?_eq_getElem hjl)
    have : x' = x := Option.some.inj (h1.symm.trans hj)
    subst this
    rw [h4]
    exact ok.ixc _ (List.getElem_mem hjl)
  ixk := by
    have e1 : ix.map (fun x => x.col.l) = g.ix.map fun x => x.col.l := by
      apply List.ext_getElem?
      intro j
      simp only [List.getElem?_map]
      cases hx : g.ix[j]? with
      | none =>
        have : ix[j]? = none := by
          rw [List.getElem?_eq_none_iff] at hx ⊢
          rw [hix.len]; exact hx
        rw [this]
      | some x =>
        obtain ⟨x', h1, _, _, h4, _⟩ := hix.at_ j x hx
        rw [h1]
        simp [h4]
    show (ix.map fun x => x.col.l).Nodup
    rw [e1]
    exact ok.ixk
  ix x hx := by
    obtain ⟨j, hj⟩ := List.mem_iff_getElem?.1 hx
    have hjl : j < g.ix.length := by have h2 := (List.getElem?_eq_some_iff.1 hj).1; rw [← hix.len]; exact h2
    obtain ⟨x', h1, h2, h3, h4, h5, _⟩ := hix.at_ j _ (List.getElem?_eq_getElem hjl)
    have : x' = x := Option.some.inj (h1.symm.trans hj)
    subst this
    obtain ⟨a, c, hgs⟩ := h5 (hall j hjl)
    have hok := ok.ix _ (List.getElem_mem hjl)
    refine ⟨by rw [hgs]; exact gadd_nodup _ _ _ _ hok.keys, fun k => ?_⟩
    rw [hgs, psOf_gadd, h4]
    show List.Perm _ (((g.es ++ [e]).filter fun e => ixKey (g.ix[j]).col e = k).map (·.p))
    rw [List.filter_append, List.map_append]
    refine List.Perm.append (hok.ps k) ?_
    by_cases hk : k = ixKey (g.ix[j]).col e
    · simp [hk]
    · simp [hk, Ne.symm hk]
  coll := ok.coll
  wl := ok.wl
  rl x hx := by
    rcases List.mem_append.1 hx with h | h
    · exact ok.rl x h
    · simp only [List.mem_singleton] at h; subst h; exact hl2
  el := by show (g.es ++ [e]).length ≤ _; rw [List.length_append, List.length_singleton]; omega

theorem ents_nodup {es : List Ent} (h : (es.flatMap entA).Pairwise Disj) : (es.map (·.p)).Nodup := by
  induction es with
  | nil => simp
  | cons e es ih =>
    rw [List.flatMap_cons] at h
    obtain ⟨h1, h2, h3⟩ := List.pairwise_append.1 h
    rw [List.map_cons, List.nodup_cons]
    refine ⟨fun hm => ?_, ih h2⟩
    obtain ⟨x, hx, hxp⟩ := List.mem_map.1 hm
    have hd := h3 _ (.head _) (own x.p (.cells (entC x).toArray 80 (0, 0))) (List.mem_flatMap.2 ⟨x, hx, .head _⟩)
    exact hd e.p rfl hxp.symm
theorem tail_nodup {w0 ws w : World} {M I : Nat → Prop} {X : List Hw.Item} {es : List Ent} {cols : List Col} {ix : List Idx} (h : Sat w0 M I ws (X ++ tailA es cols ix) w) : (es.map (·.p)).Nodup :=
  ents_nodup (List.pairwise_append.1 (List.pairwise_append.1 h.disj).2.1).1
theorem ixM_get {ix : List Idx} {i : Nat} {q : ByteArray × Value} (h : (ixM ix)[i]? = some q) : ∃ x, ix[i]? = some x ∧ q = (keyB x.col.l, ptr x.p) := by
  simp only [ixM, List.getElem?_map] at h
  obtain ⟨x, h1, h2⟩ := Option.map_eq_some_iff.1 h
  exact ⟨x, h1, h2.symm⟩
theorem ixM_length (ix : List Idx) : (ixM ix).length = ix.length := by simp [ixM]
theorem perm_add5 {A B C D x y : Hw.Item} {T : List Hw.Item} : (A :: B :: C :: D :: x :: y :: T).Perm (D :: A :: x :: y :: B :: C :: T) := by
  refine (perm3 (d := D) (a := A) (b := B) (c := C)).symm.trans (List.Perm.cons _ (List.Perm.cons _ ?_))
  exact app_swap (A := [x, y]) (B := [B, C]) (C := T)

end Go.Proofs.YtijplknkpkmblaaGreatDoor
