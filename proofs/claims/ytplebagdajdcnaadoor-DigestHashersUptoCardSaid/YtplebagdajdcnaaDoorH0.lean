/- Contracts of functions of the program: what each returns and leaves in memory. Printed by gen.py and walk.py. -/
import Derived.Test.YtplebagdajdcnaaDoorP4
import Derived.Test.YtplebagdajdcnaaDoorHwBar
namespace Go.Proofs.YtplebagdajdcnaaDoor
open Go Go.Hw
set_option linter.unusedSimpArgs false
set_option linter.unusedVariables false
/-- A hasher of the script, with all that came to it. -/
structure HE where
  hb : Nat
  all : List UInt8
  part : List UInt8
  a : Option Addr
  c : Nat
def itemsE (h : HE) : List Hw.Item := [own h.hb (.cells (HC h.all h.part).toArray 71 (0, 0)), row 5 1 h.a h.all.length h.c (u8s h.all)]
def cellsE (E : List HE) : List Value := E.flatMap fun h => [.pointer (some ⟨h.hb, 0, none⟩), .slice h.a h.all.length h.c]
abbrev pairA (E : List HE) (a : Option Addr) (c : Nat) : List Hw.Item := row 48 2 a E.length c (cellsE E) :: E.flatMap itemsE
def goodE (S : Nat) (E : List HE) : Prop := ∀ h ∈ E, HP h.all h.part ∧ h.all.length ≤ S
theorem goodE.mono {S S' : Nat} {E : List HE} (h : goodE S E) (hs : S ≤ S') : goodE S' E := fun x hx => ⟨(h x hx).1, Nat.le_trans (h x hx).2 hs⟩
theorem cellsE_length (E : List HE) : (cellsE E).length = 2 * E.length := by
  induction E with
  | nil => rfl
  | cons h E ih => simp [cellsE] at ih ⊢; omega
theorem cellsE_append (E F : List HE) : cellsE (E ++ F) = cellsE E ++ cellsE F := by simp [cellsE]
theorem cellsE_at (E1 E2 : List HE) (h : HE) : (cellsE (E1 ++ h :: E2))[2 * E1.length]? = some (.pointer (some ⟨h.hb, 0, none⟩)) ∧ (cellsE (E1 ++ h :: E2))[2 * E1.length + 1]? = some (.slice h.a h.all.length h.c) := by
  have hl := cellsE_length E1
  rw [cellsE_append]
  constructor
  · rw [List.getElem?_append_right (by omega), hl, Nat.sub_self]; rfl
  · rw [List.getElem?_append_right (by omega), hl, Nat.add_sub_cancel_left]; rfl
theorem cellsE_set (E1 E2 : List HE) (h h' : HE) (hh : h'.hb = h.hb) : (cellsE (E1 ++ h :: E2)).set (2 * E1.length + 1) (.slice h'.a h'.all.length h'.c) = cellsE (E1 ++ h' :: E2) := by
  have hl := cellsE_length E1
  rw [cellsE_append, cellsE_append, List.set_append_right _ _ (by omega), hl, Nat.add_sub_cancel_left]
  simp [cellsE, hh]
theorem split_at {α : Type} {l : List α} {k : Nat} (h : k < l.length) : ∃ l1 x l2, l = l1 ++ x :: l2 ∧ l1.length = k :=
  ⟨l.take k, l[k], l.drop (k + 1), by rw [← List.drop_eq_getElem_cons h, List.take_append_drop], by simp; omega⟩
def RR (E1 E2 : List HE) : List Hw.Item := E1.flatMap itemsE ++ E2.flatMap itemsE
/-- The hasher number k ahead. -/
theorem permF (E1 E2 : List HE) (h : HE) (X : Hw.Item) : (own h.hb (.cells (HC h.all h.part).toArray 71 (0, 0)) :: row 5 1 h.a h.all.length h.c (u8s h.all) :: X :: RR E1 E2).Perm (X :: (E1 ++ h :: E2).flatMap itemsE) := by
  have e : (E1 ++ h :: E2).flatMap itemsE = E1.flatMap itemsE ++ (itemsE h ++ E2.flatMap itemsE) := by simp
  rw [e, RR]
  have h1 : (itemsE h ++ (E1.flatMap itemsE ++ E2.flatMap itemsE)).Perm (E1.flatMap itemsE ++ (itemsE h ++ E2.flatMap itemsE)) := by
    rw [← List.append_assoc, ← List.append_assoc]
    exact List.Perm.append_right _ List.perm_append_comm
  have h2 := (List.Perm.cons X h1)
  refine List.Perm.trans ?_ h2
  exact (List.perm_middle (l₁ := itemsE h) (l₂ := E1.flatMap itemsE ++ E2.flatMap itemsE) (a := X))
theorem permN (E : List HE) (h : HE) (X : Hw.Item) : (X :: (E ++ [h]).flatMap itemsE).Perm (row 5 1 h.a h.all.length h.c (u8s h.all) :: X :: own h.hb (.cells (HC h.all h.part).toArray 71 (0, 0)) :: E.flatMap itemsE) := by
  have e : (E ++ [h]).flatMap itemsE = E.flatMap itemsE ++ itemsE h := by simp
  rw [e]
  have h1 : (X :: (E.flatMap itemsE ++ itemsE h)).Perm (X :: (itemsE h ++ E.flatMap itemsE)) := List.Perm.cons X List.perm_append_comm
  refine h1.trans ?_
  show (X :: own h.hb (.cells (HC h.all h.part).toArray 71 (0, 0)) :: row 5 1 h.a h.all.length h.c (u8s h.all) :: E.flatMap itemsE).Perm _
  exact (List.perm_middle (l₁ := [X, own h.hb (.cells (HC h.all h.part).toArray 71 (0, 0))]) (l₂ := E.flatMap itemsE) (a := row 5 1 h.a h.all.length h.c (u8s h.all)))
theorem Tab.satB {w w' : World} {A ow : List Hw.Item} {B g : Nat} {l : List UInt32} (h : Tab w g l) (hg : g < B) (hAB : ∀ b, DD A b → B ≤ b) (hw : Sat w (DD A) (fun b => b < w.heap.size ∧ ¬ DD A b) w ow w') : Tab w' g l := fun t ht => snapB hAB hw hg (h t ht)
theorem Tabs.satB {w w' : World} {A ow : List Hw.Item} {B : Nat} (h : Tabs w) (h4 : 4 ≤ B) (hAB : ∀ b, DD A b → B ≤ b) (hw : Sat w (DD A) (fun b => b < w.heap.size ∧ ¬ DD A b) w ow w') : Tabs w' :=
  ⟨h.rf.satB (by omega) hAB hw, h.df.satB (by omega) hAB hw, h.rk.satB (by omega) hAB hw, h.dk.satB (by omega) hAB hw⟩
/-- Where the items of the callee lie: at B or above it. -/
theorem ge_of {w w' : World} {A ow : List Hw.Item} {B : Nat} (hAB : ∀ b, DD A b → B ≤ b) (hBw : B ≤ w.heap.size) (hw : Sat w (DD A) (fun b => b < w.heap.size ∧ ¬ DD A b) w ow w') {i : Hw.Item} (hi : i ∈ ow) {b : Nat} (hb : i.D b) : B ≤ b := by
  rcases (hw.lt i hi b hb).2.2 with h | h
  · exact hAB b h
  · omega
theorem fill_pair {P : Program} {pl : List (Nat × Nat)} {z0 z1 v0 v1 : Value} (hpl : pl = [(0, 1), (1, 1)]) (h0 : v0.oneCell' = true) (h1 : v1.oneCell' = true) : Instr.fill (fun i => pl[i]?) [z0, z1].toArray [(0, v0), (1, v1)] = some [v0, v1].toArray := by
  subst hpl
  refine fill_cons (us := [v0]) (one_cells h0) rfl (by simp) ?_
  refine fill_cons (us := [v1]) (one_cells h1) rfl (by simp) ?_
  simp [Instr.fill]
theorem fill_pair0 {pl : List (Nat × Nat)} {z0 z1 v0 : Value} (hpl : pl = [(0, 1), (1, 1)]) (h0 : v0.oneCell' = true) : Instr.fill (fun i => pl[i]?) [z0, z1].toArray [(0, v0)] = some [v0, z1].toArray := by
  subst hpl
  refine fill_cons (us := [v0]) (one_cells h0) rfl (by simp) ?_
  simp [Instr.fill]
theorem natAbs_tmod {a : Int} {n : Nat} (h : 0 < n) : (a.tmod (n : Int)).natAbs < n := by
  rw [Int.natAbs_tmod]
  simpa using Nat.mod_lt _ h

end Go.Proofs.YtplebagdajdcnaaDoor
