/- What is known of memory: a snapshot of what stays, and the blocks of the call's own. -/
import Derived.Test.YtplebagdajdcnaaDoorHwOps
namespace Go.Hw
set_option linter.unusedVariables false
set_option linter.unusedSimpArgs false
open Go Go.RowKit

/-- What a call leaves: streams as they were, no block gone, nothing turned but the blocks of 'M' and what is new. -/
structure Fr (M : Nat → Prop) (w w' : World) : Prop where
  os : w'.os = w.os
  tape : w'.tape = w.tape
  output : w'.output = w.output
  size : w.heap.size ≤ w'.heap.size
  keep : ∀ b, b < w.heap.size → ¬ M b → w'.heap[b]? = w.heap[b]?

abbrev Fr0 : World → World → Prop := Fr (fun _ => False)

theorem Fr.refl (M : Nat → Prop) (w : World) : Fr M w w := ⟨rfl, rfl, rfl, Nat.le_refl _, fun _ _ _ => rfl⟩
theorem Fr.trans {M : Nat → Prop} {a b c : World} (h : Fr M a b) (k : Fr M b c) : Fr M a c :=
  ⟨k.os.trans h.os, k.tape.trans h.tape, k.output.trans h.output, Nat.le_trans h.size k.size,
    fun i hi hm => (k.keep i (Nat.lt_of_lt_of_le hi h.size) hm).trans (h.keep i hi hm)⟩
theorem Fr.mono {M M' : Nat → Prop} {a b : World} (h : Fr M a b) (hm : ∀ i, M i → M' i) : Fr M' a b :=
  ⟨h.os, h.tape, h.output, h.size, fun i hi hn => h.keep i hi (fun hh => hn (hm i hh))⟩
/-- What a callee turned that the caller had made anew. -/
theorem Fr.trans_new {M M' : Nat → Prop} {a b c : World} (h : Fr M a b) (k : Fr M' b c) (hm : ∀ i, M' i → M i ∨ a.heap.size ≤ i) : Fr M a c :=
  ⟨k.os.trans h.os, k.tape.trans h.tape, k.output.trans h.output, Nat.le_trans h.size k.size,
    fun i hi hn => (k.keep i (Nat.lt_of_lt_of_le hi h.size) (fun hh => (hm i hh).elim hn (fun hge => by omega))).trans (h.keep i hi hn)⟩
theorem Fr.below {w w' : World} (h : Fr0 w w') : Below w.heap.size w w' := ⟨h.os, h.tape, h.output, h.size, fun b hb => h.keep b hb (fun hf => hf)⟩
theorem Fr.of_below {w w' : World} (h : Below w.heap.size w w') : Fr0 w w' := ⟨h.os, h.tape, h.output, h.size, fun b hb _ => h.block b hb⟩

/-- A part of memory: the blocks in which it lies, and what is known of them. -/
structure Item where
  D : Nat → Prop
  φ : World → Prop
  loc : ∀ w w', (∀ b, D b → w'.heap[b]? = w.heap[b]?) → φ w → φ w'

def own (b : Nat) (o : Obj) : Item := ⟨fun i => i = b, fun w => w.heap[b]? = some o, fun _ _ h hw => (h b rfl).trans hw⟩

def Disj (i j : Item) : Prop := ∀ b, i.D b → ¬ j.D b
theorem Disj.symm {i j : Item} (h : Disj i j) : Disj j i := fun b hb hi => h b hi hb

structure Sat (w0 : World) (M I : Nat → Prop) (ws : World) (ow : List Item) (w : World) : Prop where
  fr : Fr M w0 w
  snap : ∀ b, I b → b < w.heap.size ∧ w.heap[b]? = ws.heap[b]?
  it : ∀ i ∈ ow, i.φ w
  lt : ∀ i ∈ ow, ∀ b, i.D b → b < w.heap.size ∧ ¬ I b ∧ (M b ∨ w0.heap.size ≤ b)
  disj : ow.Pairwise Disj

variable {w0 ws w : World} {M I : Nat → Prop} {ow : List Item} {i j k l : Item}

/-- At the head of a call: all that was there is the snapshot. -/
theorem Sat.start (w : World) (M : Nat → Prop) : Sat w M (fun b => b < w.heap.size) w [] w :=
  ⟨Fr.refl _ _, fun _ h => ⟨h, rfl⟩, by simp, by simp, .nil⟩

/-- At the head of a call that may turn the block b. -/
theorem Sat.startOwn {w : World} {b : Nat} {o : Obj} (hb : w.heap[b]? = some o) : Sat w (fun i => i = b) (fun i => i < w.heap.size ∧ i ≠ b) w [own b o] w := by
  have hlt : b < w.heap.size := (Array.getElem?_eq_some_iff.1 hb).1
  refine ⟨Fr.refl _ _, fun i h => ⟨h.1, rfl⟩, ?_, ?_, .cons (fun _ h => by cases h) .nil⟩
  · intro i hi
    simp only [List.mem_singleton] at hi
    subst hi
    exact hb
  · intro i hi j hj
    simp only [List.mem_singleton] at hi
    subst hi
    simp only [own] at hj
    subst hj
    exact ⟨hlt, fun h => h.2 rfl, .inl rfl⟩

theorem Sat.cell (h : Sat w0 M I ws ow w) {a : Addr} (ha : I a.block) : w.cell? a = ws.cell? a :=
  World.cell?_of_block (w := ws) (h.snap a.block ha).2

/-- The snapshot is anew: whatever is no item's. -/
theorem Sat.resnap (h : Sat w0 M I ws ow w) : Sat w0 M (fun b => b < w.heap.size ∧ ∀ i ∈ ow, ¬ i.D b) w ow w :=
  ⟨h.fr, fun _ hb => ⟨hb.1, rfl⟩, h.it, fun i hi b hb => ⟨(h.lt i hi b hb).1, fun hn => hn.2 i hi hb, (h.lt i hi b hb).2.2⟩, h.disj⟩

theorem snapL {w w' : World} (h : Sat w M (fun b => b < w.heap.size) w ow w') {a : Addr} {v : Value} (hc : w.cell? a = some v) : w'.cell? a = some v :=
  (h.cell (World.block_lt_of_cell? w a hc)).trans hc
theorem Sat.draw (h : Sat w0 M I ws ow w) {w' : World} (hh : w'.heap = w.heap) (ho : w'.os = w.os) (ht : w'.tape = w.tape) (hp : w'.output = w.output) : Sat w0 M I ws ow w' :=
  ⟨⟨ho.trans h.fr.os, ht.trans h.fr.tape, hp.trans h.fr.output, by rw [hh]; exact h.fr.size, by rw [hh]; exact h.fr.keep⟩, by rw [hh]; exact h.snap,
    fun i hi => i.loc w w' (by simp [hh]) (h.it i hi), by rw [hh]; exact h.lt, h.disj⟩

theorem Sat.drop (h : Sat w0 M I ws (i :: ow) w) : Sat w0 M I ws ow w :=
  ⟨h.fr, h.snap, fun j hj => h.it j (.tail _ hj), fun j hj => h.lt j (.tail _ hj), (List.pairwise_cons.1 h.disj).2⟩

theorem Sat.perm {ow' : List Item} (hp : ow'.Perm ow) (h : Sat w0 M I ws ow w) : Sat w0 M I ws ow' w :=
  ⟨h.fr, h.snap, fun i hi => h.it i (hp.mem_iff.1 hi), fun i hi => h.lt i (hp.mem_iff.1 hi), (hp.pairwise_iff (fun h => Disj.symm h)).2 h.disj⟩

/-- A callee that turns nothing that was there. -/
theorem Sat.keep (h : Sat w0 M I ws ow w) {w' : World} (k : Fr0 w w') : Sat w0 M I ws ow w' :=
  ⟨h.fr.trans (k.mono (fun _ f => f.elim)), fun b hb => ⟨Nat.lt_of_lt_of_le (h.snap b hb).1 k.size, (k.keep b (h.snap b hb).1 id).trans (h.snap b hb).2⟩,
    fun i hi => i.loc w w' (fun b hb => k.keep b (h.lt i hi b hb).1 id) (h.it i hi),
    fun i hi b hb => ⟨Nat.lt_of_lt_of_le (h.lt i hi b hb).1 k.size, (h.lt i hi b hb).2⟩, h.disj⟩

/-- A new item, in new blocks. -/
theorem Sat.fresh (h : Sat w0 M I ws ow w) {w' : World} (k : Fr0 w w') {i : Item} (hi : i.φ w') (hD : ∀ b, i.D b → w.heap.size ≤ b ∧ b < w'.heap.size) : Sat w0 M I ws (i :: ow) w' := by
  have h' := h.keep k
  refine ⟨h'.fr, h'.snap, fun j hj => ?_, fun j hj b hb => ?_, List.pairwise_cons.2 ⟨fun j hj b hb hjb => ?_, h'.disj⟩⟩
  · rcases List.mem_cons.1 hj with rfl | hj
    · exact hi
    · exact h'.it j hj
  · rcases List.mem_cons.1 hj with rfl | hj
    · have := hD b hb
      exact ⟨this.2, fun hI => by have := (h.snap b hI).1; omega, .inr (Nat.le_trans h.fr.size this.1)⟩
    · exact h'.lt j hj b hb
  · have := hD b hb
    have := (h.lt j hj b hjb).1
    omega

/-- The first item turns; its blocks are those that it had, or new ones. -/
theorem Sat.turn (h : Sat w0 M I ws (i :: ow) w) {w' : World} {i' : Item} (k : Fr i.D w w') (hi : i'.φ w') (hD : ∀ b, i'.D b → i.D b ∨ (w.heap.size ≤ b ∧ b < w'.heap.size)) : Sat w0 M I ws (i' :: ow) w' := by
  have hd := List.pairwise_cons.1 h.disj
  have hlt := h.lt i (.head _)
  have others : ∀ j ∈ ow, ∀ b, j.D b → w'.heap[b]? = w.heap[b]? := fun j hj b hb => k.keep b (h.lt j (.tail _ hj) b hb).1 (fun hib => hd.1 j hj b hib hb)
  refine ⟨h.fr.trans_new k (fun b hb => (hlt b hb).2.2), fun b hb => ?_, fun j hj => ?_, fun j hj b hb => ?_, List.pairwise_cons.2 ⟨fun j hj b hb hjb => ?_, hd.2⟩⟩
  · exact ⟨Nat.lt_of_lt_of_le (h.snap b hb).1 k.size, (k.keep b (h.snap b hb).1 (fun hib => (hlt b hib).2.1 hb)).trans (h.snap b hb).2⟩
  · rcases List.mem_cons.1 hj with rfl | hj
    · exact hi
    · exact j.loc w w' (others j hj) (h.it j (.tail _ hj))
  · rcases List.mem_cons.1 hj with rfl | hj
    · rcases hD b hb with hb | hb
      · exact ⟨Nat.lt_of_lt_of_le (hlt b hb).1 k.size, (hlt b hb).2⟩
      · exact ⟨hb.2, fun hI => by have := (h.snap b hI).1; omega, .inr (Nat.le_trans h.fr.size hb.1)⟩
    · have := h.lt j (.tail _ hj) b hb
      exact ⟨Nat.lt_of_lt_of_le this.1 k.size, this.2⟩
  · rcases hD b hb with hb | hb
    · exact hd.1 j hj b hb hjb
    · have := (h.lt j (.tail _ hj) b hjb).1
      omega

theorem Fr.alloc (w : World) (o : Obj) : Fr0 w (w.alloc o) :=
  ⟨rfl, rfl, rfl, by simp, fun b hb _ => Below.heap_alloc _ _ _ hb⟩
theorem Fr.setCell (w : World) (a : Addr) (u : Value) : Fr (fun b => b = a.block) w (w.setCell a u) :=
  ⟨rfl, rfl, rfl, by simp [World.setCell], fun b _ hn => Below.heap_setCell _ _ _ _ hn⟩

theorem own_alloc (w : World) (o : Obj) : (own w.heap.size o).φ (w.alloc o) := by
  show (w.heap.push o)[w.heap.size]? = some o
  simp

/-! ### The order of the items -/
theorem perm1 : (i :: j :: ow).Perm (j :: i :: ow) := List.Perm.swap _ _ _
theorem perm2 : (i :: j :: k :: ow).Perm (j :: k :: i :: ow) := (List.perm_middle (l₁ := [j, k])).symm
theorem perm3 {a b c d : Item} : (d :: a :: b :: c :: ow).Perm (a :: b :: c :: d :: ow) := (List.perm_middle (l₁ := [a, b, c])).symm
theorem perm4 {a b c d f : Item} : (f :: a :: b :: c :: d :: ow).Perm (a :: b :: c :: d :: f :: ow) := (List.perm_middle (l₁ := [a, b, c, d])).symm
theorem perm5 {a b c d f g : Item} : (g :: a :: b :: c :: d :: f :: ow).Perm (a :: b :: c :: d :: f :: g :: ow) := (List.perm_middle (l₁ := [a, b, c, d, f])).symm
theorem perm6 {a b c d f g h : Item} : (h :: a :: b :: c :: d :: f :: g :: ow).Perm (a :: b :: c :: d :: f :: g :: h :: ow) := (List.perm_middle (l₁ := [a, b, c, d, f, g])).symm
theorem perm7 {a b c d f g h i' : Item} : (i' :: a :: b :: c :: d :: f :: g :: h :: ow).Perm (a :: b :: c :: d :: f :: g :: h :: i' :: ow) := (List.perm_middle (l₁ := [a, b, c, d, f, g, h])).symm

variable {P : Program} {ops : Array Oper} {Q : Post} {n : Nat} {ds : List Deferred} {e : Env} {rest : List Oper} {c : Code}
theorem WL.focus {ow' : List Item} (hp : ow'.Perm ow) {l : List Oper} (h : WL P ops Q n ds e (Sat w0 M I ws ow') l) : WL P ops Q n ds e (Sat w0 M I ws ow) l :=
  h.weak (fun _ hw => hw.perm hp)
theorem WC.focus {ow' : List Item} (hp : ow'.Perm ow) (h : WC P Q n ds e (Sat w0 M I ws ow') c) : WC P Q n ds e (Sat w0 M I ws ow) c :=
  h.weak (fun _ hw => hw.perm hp)

/-! ### Cells -/
theorem cell_own (h : Sat w0 M I ws ow w) {b : Nat} {cs : Array Value} {T : TypeId} {f : Nat × Nat} (hm : own b (.cells cs T f) ∈ ow) {o : Nat} {v : Value} (hv : cs[o]? = some v) : w.cell? ⟨b, o, none⟩ = some v := by
  have : w.heap[b]? = some (.cells cs T f) := h.it _ hm
  simp [World.cell?, this, hv]

/-! ### Operations on memory -/
def aggD : TypeDesc → Bool
  | .struct _ | .array _ _ => true
  | _ => false
variable {dst : Option Tmp} {t lt : TypeId} {p : String} {af : Array Edge} {g : Option (Nat × Bool)} {x y : Operand} {v u : Value} {d : TypeDesc} {a : Addr} {S : World → Prop}
theorem run_isAgg (hu : P.underlying lt = some d) (w : World) : (isAgg lt).run P w = .ok (aggD d) w := by
  simp only [isAgg, Sem.run_bind, run_underlying hu, Result.andThen]
  cases d <;> rfl
def _root_.Go.Program.sz (P : Program) (t : TypeId) : Option Nat := (P.info? t).map (·.size)
theorem run_sizeOf {m : Nat} (hz : P.sz t = some m) (w : World) : (sizeOf t).run P w = .ok m w := by
  unfold Program.sz at hz
  obtain ⟨i, hi, rfl⟩ := Option.map_eq_some_iff.1 hz
  simp [sizeOf, typeInfo, hi]

theorem OV.load1 (hx : ev e x = some (.pointer (some a))) (hu : P.underlying lt = some d) (hd : aggD d = false) (hc : ∀ w, S w → w.cell? a = some v) :
    OV P n ds e S ⟨dst, .load lt x, t, p, af, g⟩ v := fun _ w ha hw => by
  simp [execOp, ha.eval hx, Instr.loadAt, Instr.sureAddr, loadVar, run_isAgg hu, hd, load, Sem.run, hc w hw]
theorem OV.loadN {cs : List Value} (hx : ev e x = some (.pointer (some a))) (hu : P.underlying lt = some d) (hd : aggD d = true) (hz : P.sz lt = some cs.length)
    (hc : ∀ w, S w → ∀ j v, cs[j]? = some v → w.cell? (a.add j) = some v) : OV P n ds e S ⟨dst, .load lt x, t, p, af, g⟩ (.agg cs.toArray) := fun _ w ha hw => by
  simp [execOp, ha.eval hx, Instr.loadAt, Instr.sureAddr, loadVar, run_isAgg hu, hd, run_sizeOf hz, run_loadCells_list w a cs (hc w hw)]
theorem OV.nilCheck (hx : ev e x = some (.pointer (some a))) : OV P n ds e S ⟨dst, .nilCheck x, t, p, af, g⟩ (.pointer (some a)) := fun _ w ha _ => by
  simp [execOp, ha.eval hx]
end Go.Hw
