/- A relation as it lies in memory. -/
import Derived.Test.YtijplknkpkmblaaGreatDoorK4
namespace Go.Proofs.YtijplknkpkmblaaGreatDoor
open Go Go.Hw
set_option linter.unusedSimpArgs false
set_option linter.unusedVariables false
/-! ### A relation as it lies -/
structure Ent where
  p : Nat
  a : Option Addr
  c : Nat
  row : List Int
  part : Nat
structure Col where
  a : Option Addr
  c : Nat
  l : List Int
structure Grp where
  k : ByteArray
  a : Option Addr
  c : Nat
  ps : List Nat
structure Idx where
  p : Nat
  mb : Nat
  col : Col
  gs : List Grp
structure RelG where
  r : Nat
  mb : Nat
  ib : Nat
  width : Nat
  es : List Ent
  fa : Option Addr
  fc : Nat
  fs : List Nat
  na : Option Addr
  nc : Nat
  ns : List Nat
  cols : List Col
  ix : List Idx
def ptr (p : Nat) : Value := .pointer (some ⟨p, 0, none⟩)
def ptrs (l : List Nat) : List Value := l.map ptr
theorem ptrs_length (l : List Nat) : (ptrs l).length = l.length := by simp [ptrs]
theorem ptrs_one (l : List Nat) : ∀ u ∈ ptrs l, u.oneCell' = true := by
  intro u hu
  simp only [ptrs, List.mem_map] at hu
  obtain ⟨c, _, rfl⟩ := hu
  rfl
theorem ptrs_append (l m : List Nat) : ptrs (l ++ m) = ptrs l ++ ptrs m := by simp [ptrs]
theorem ptrs_get {l : List Nat} {i p : Nat} (h : l[i]? = some p) : (ptrs l)[i]? = some (ptr p) := by simp [ptrs, h]
def entC (e : Ent) : List Value := [.slice e.a e.row.length e.c, .int .i64 (e.part : Int)]
def entA (e : Ent) : List Hw.Item := [own e.p (.cells (entC e).toArray 80 (0, 0)), row 3 1 e.a e.row.length e.c (ints e.row)]
def colA (c : Col) : List Hw.Item := [row 3 1 c.a c.l.length c.c (ints c.l)]
def grpA (g : Grp) : List Hw.Item := [row 78 1 g.a g.ps.length g.c (ptrs g.ps)]
def grpM (gs : List Grp) : List (ByteArray × Value) := gs.map fun g => (g.k, .slice g.a g.ps.length g.c)
def idxC (x : Idx) : List Value := [.slice x.col.a x.col.l.length x.col.c, .map (some x.mb)]
def idxA (x : Idx) : List Hw.Item := own x.p (.cells (idxC x).toArray 74 (0, 0)) :: own x.mb (mapK Value.string (grpM x.gs)) :: x.gs.flatMap grpA
def cnt (es : List Ent) (q : Nat) : Nat := (es.filter fun e => e.part = q).length
def counts (es : List Ent) : List Int := (List.range 8).map fun q => (cnt es q : Int)
def hdC (width mb : Nat) (f n : Value) (cts : List Int) (ib : Nat) : List Value := [.int .i64 (width : Int), .map (some mb), f, n] ++ (ints cts ++ [.map (some ib), .int .i32 0, .int .u32 0])
def rowsM (es : List Ent) : List (ByteArray × Value) := es.map fun e => (keyB e.row, ptr e.p)
def ixM (ix : List Idx) : List (ByteArray × Value) := ix.map fun x => (keyB x.col.l, ptr x.p)
def fslice (g : RelG) : Value := .slice g.fa g.fs.length g.fc
def nslice (g : RelG) : Value := .slice g.na g.ns.length g.nc
abbrev hdA (r : Nat) (cs : List Value) : Hw.Item := own r (.cells cs.toArray 66 (0, 0))
abbrev psA (a : Option Addr) (c : Nat) (l : List Nat) : Hw.Item := row 78 1 a l.length c (ptrs l)
def tailA (es : List Ent) (cols : List Col) (ix : List Idx) : List Hw.Item := es.flatMap entA ++ (cols.flatMap colA ++ ix.flatMap idxA)
def relA (g : RelG) : List Hw.Item :=
  hdA g.r (hdC g.width g.mb (fslice g) (nslice g) (counts g.es) g.ib) :: own g.mb (mapK Value.string (rowsM g.es)) :: own g.ib (mapK Value.string (ixM g.ix)) :: psA g.fa g.fc g.fs :: psA g.na g.nc g.ns :: tailA g.es g.cols g.ix
/-- What a group's key leads to. -/
def psOf (gs : List Grp) (k : ByteArray) : List Nat := ((gs.find? fun g => g.k = k).map (·.ps)).getD []
def ixKey (c : Col) (e : Ent) : ByteArray := keyB (pickL e.row c.l)
structure IdxOK (es : List Ent) (x : Idx) : Prop where
  keys : (x.gs.map (·.k)).Nodup
  ps : ∀ k, (psOf x.gs k).Perm ((es.filter fun e => ixKey x.col e = k).map (·.p))
structure RelOK (g : RelG) : Prop where
  wid : ∀ e ∈ g.es, e.row.length = g.width
  i64 : ∀ e ∈ g.es, i64s e.row
  part : ∀ e ∈ g.es, e.part = 1 ∨ e.part = 2 ∨ e.part = 4
  rows : (g.es.map (·.row)).Nodup
  ptrs : (g.es.map (·.p)).Nodup
  fs : g.fs = (g.es.filter fun e => e.part = 2).map (·.p)
  ns : g.ns = (g.es.filter fun e => e.part = 4).map (·.p)
  cols : ∀ c ∈ g.cols, ∀ k ∈ c.l, 0 ≤ k ∧ k < g.width
  ixc : ∀ x ∈ g.ix, x.col ∈ g.cols
  ixk : (g.ix.map fun x => x.col.l).Nodup
  ix : ∀ x ∈ g.ix, IdxOK g.es x
  coll : ∀ c ∈ g.cols, c.l.length ≤ 1099511627776
  wl : g.width ≤ 9223372036854775807
  el : g.es.length ≤ 1099511627776
  rl : ∀ e ∈ g.es, e.row.length ≤ 1099511627776
def RelG.empty (r mb ib width : Nat) : RelG := ⟨r, mb, ib, width, [], none, 0, [], none, 0, [], [], []⟩
theorem RelOK.empty {r mb ib width : Nat} (h : width ≤ 9223372036854775807) : RelOK (RelG.empty r mb ib width) :=
  ⟨by simp [RelG.empty], by simp [RelG.empty], by simp [RelG.empty], by simp [RelG.empty], by simp [RelG.empty], rfl, rfl, by simp [RelG.empty], by simp [RelG.empty], by simp [RelG.empty], by simp [RelG.empty], by simp [RelG.empty], h, by simp [RelG.empty], by simp [RelG.empty]⟩
theorem hdC_length {width mb : Nat} {f n : Value} {cts : List Int} {ib : Nat} (h : cts.length = 8) : (hdC width mb f n cts ib).length = 15 := by simp [hdC, ints_length, h]
theorem counts_length (es : List Ent) : (counts es).length = 8 := by simp [counts]
theorem counts_get {es : List Ent} {q : Nat} (h : q < 8) : (counts es)[q]? = some (cnt es q : Int) := by simp [counts, h]
theorem hdC_cnt {width mb : Nat} {f n : Value} {cts : List Int} {ib q : Nat} {v : Int} (h : cts[q]? = some v) : (hdC width mb f n cts ib)[4 + q]? = some (.int .i64 v) := by
  have hq := (List.getElem?_eq_some_iff.1 h).1
  rw [hdC, List.getElem?_append_right (by simp), List.getElem?_append_left (by rw [ints_length]; simpa using hq)]
  simpa using ints_get h
theorem hdC_set {width mb : Nat} {f n : Value} {cts : List Int} {ib q : Nat} {v : Int} (h : q < cts.length) : (hdC width mb f n cts ib).set (4 + q) (.int .i64 v) = hdC width mb f n (cts.set q v) ib := by
  have hl : ([.int .i64 (width : Int), .map (some mb), f, n] : List Value).length = 4 := rfl
  rw [hdC, hdC, List.set_append_right _ _ (by rw [hl]; omega), hl, Nat.add_sub_cancel_left, List.set_append_left _ _ (by rw [ints_length]; exact h)]
  congr 2
  simp [ints, List.map_set]
theorem hdC_ix {width mb : Nat} {f n : Value} {cts : List Int} {ib : Nat} (h : cts.length = 8) : (hdC width mb f n cts ib)[12]? = some (.map (some ib)) := by
  rw [hdC, List.getElem?_append_right (by simp), List.getElem?_append_right (by rw [ints_length, h]; simp), ints_length, h]
  rfl
theorem hdC_mu {width mb : Nat} {f n : Value} {cts : List Int} {ib : Nat} (h : cts.length = 8) : (hdC width mb f n cts ib)[13]? = some (.int .i32 0) := by
  rw [hdC, List.getElem?_append_right (by simp), List.getElem?_append_right (by rw [ints_length, h]; simp), ints_length, h]
  rfl
theorem hdC_set3 (width mb : Nat) (f n v : Value) (cts : List Int) (ib : Nat) : (hdC width mb f n cts ib).set 3 v = hdC width mb f v cts ib := rfl
/-! ### Parts of lists ahead -/
theorem flat_ahead {α : Type} (f : α → List Hw.Item) (l1 l2 : List α) (x : α) : (f x ++ (l1 ++ l2).flatMap f).Perm ((l1 ++ x :: l2).flatMap f) := by
  have e : (l1 ++ x :: l2).flatMap f = l1.flatMap f ++ (f x ++ l2.flatMap f) := by simp
  rw [e, List.flatMap_append, ← List.append_assoc, ← List.append_assoc]
  exact List.Perm.append_right _ List.perm_append_comm
theorem app_swap {A B C : List Hw.Item} : (B ++ (A ++ C)).Perm (A ++ (B ++ C)) := by
  rw [← List.append_assoc, ← List.append_assoc]
  exact List.Perm.append_right _ List.perm_append_comm
/-- An entry ahead in the tail. -/
theorem tail_ent (l1 l2 : List Ent) (e : Ent) (cols : List Col) (ix : List Idx) : (entA e ++ tailA (l1 ++ l2) cols ix).Perm (tailA (l1 ++ e :: l2) cols ix) := by
  unfold tailA
  rw [← List.append_assoc]
  exact List.Perm.append_right _ (flat_ahead entA l1 l2 e)
theorem tail_col (es : List Ent) (l1 l2 : List Col) (c : Col) (ix : List Idx) : (colA c ++ tailA es (l1 ++ l2) ix).Perm (tailA es (l1 ++ c :: l2) ix) := by
  unfold tailA
  refine app_swap.trans (List.Perm.append_left _ ?_)
  rw [← List.append_assoc]
  exact List.Perm.append_right _ (flat_ahead colA l1 l2 c)
theorem tail_idx (es : List Ent) (cols : List Col) (l1 l2 : List Idx) (x : Idx) : (idxA x ++ tailA es cols (l1 ++ l2)).Perm (tailA es cols (l1 ++ x :: l2)) := by
  unfold tailA
  refine app_swap.trans (List.Perm.append_left _ ?_)
  refine app_swap.trans (List.Perm.append_left _ ?_)
  exact flat_ahead idxA l1 l2 x
theorem split_mem {α : Type} {l : List α} {x : α} (h : x ∈ l) : ∃ l1 l2, l = l1 ++ x :: l2 := by
  obtain ⟨l1, l2, rfl⟩ := List.append_of_mem h
  exact ⟨l1, l2, rfl⟩
theorem split_get {α : Type} {l : List α} {k : Nat} {x : α} (h : l[k]? = some x) : ∃ l1 l2, l = l1 ++ x :: l2 ∧ l1.length = k := by
  obtain ⟨hk, rfl⟩ := List.getElem?_eq_some_iff.1 h
  exact ⟨l.take k, l.drop (k + 1), by rw [← List.drop_eq_getElem_cons hk, List.take_append_drop], by simp; omega⟩
theorem own_mem_ent {es : List Ent} {e : Ent} (h : e ∈ es) {cols : List Col} {ix : List Idx} : own e.p (.cells (entC e).toArray 80 (0, 0)) ∈ tailA es cols ix :=
  List.mem_append_left _ (List.mem_flatMap.2 ⟨e, h, .head _⟩)
theorem row_mem_ent {es : List Ent} {e : Ent} (h : e ∈ es) {cols : List Col} {ix : List Idx} : row 3 1 e.a e.row.length e.c (ints e.row) ∈ tailA es cols ix :=
  List.mem_append_left _ (List.mem_flatMap.2 ⟨e, h, .tail _ (.head _)⟩)
theorem mem_col {es : List Ent} {cols : List Col} {c : Col} (h : c ∈ cols) {ix : List Idx} : row 3 1 c.a c.l.length c.c (ints c.l) ∈ tailA es cols ix :=
  List.mem_append_right _ (List.mem_append_left _ (List.mem_flatMap.2 ⟨c, h, .head _⟩))
theorem mem_idx {es : List Ent} {cols : List Col} {ix : List Idx} {x : Idx} (h : x ∈ ix) {i : Hw.Item} (hi : i ∈ idxA x) : i ∈ tailA es cols ix :=
  List.mem_append_right _ (List.mem_append_right _ (List.mem_flatMap.2 ⟨x, h, hi⟩))
theorem Sat.sepI {w0 ws w : World} {M I : Nat → Prop} {A ow : List Hw.Item} (h : Sat w0 M I ws (A ++ ow) w) {b : Nat} (hI : I b) : ¬ DD A b := fun ⟨i, hi, hb⟩ => (h.lt i (List.mem_append_left _ hi) b hb).2.1 hI
theorem Sat.sepO {w0 ws w : World} {M I : Nat → Prop} {A ow : List Hw.Item} (h : Sat w0 M I ws (A ++ ow) w) {i : Hw.Item} (hi : i ∈ ow) {b : Nat} (hb : i.D b) : ¬ DD A b := fun ⟨j, hj, hjb⟩ => (List.pairwise_append.1 h.disj).2.2 j hj i hi b hjb hb
/-- A slice of numbers that the items do not touch. -/
theorem RI.satA {w w' : World} {A ow : List Hw.Item} {a : Option Addr} {m : Nat} {l : List Int} (h : RI w a m l) (hne : ∀ b, a = some b → 0 < m → ¬ DD A b.block) (hw : Sat w (DD A) (fun b => b < w.heap.size ∧ ¬ DD A b) w ow w') : RI w' a m l := h.fr hne hw.fr

end Go.Proofs.YtijplknkpkmblaaGreatDoor
