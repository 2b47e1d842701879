/- The core of a calculus for walking the loaded code: environments of slots, one lemma an operation. -/
import Derived.WalkKit
import Derived.WalkSpells
import Derived.WalkLawsBesides
import Derived.Deep.QuietTactic
import Derived.BigQuiet
import Derived.KernelRfl
namespace Go.Hw
set_option linter.unusedVariables false
set_option linter.unusedSimpArgs false
open Go Go.RowKit

/-! ### Environments -/
abbrev Env := List (Nat × Value)

def look : Env → Nat → Option Value
  | [], _ => none
  | (k, v) :: r, t => bif Nat.beq k t then some v else look r t

def ev (e : Env) : Operand → Option Value
  | .tmp t => look e t
  | .const v => some v
  | .global g => some (.pointer (some ⟨g, 0, none⟩))
  | .func f => some (.func (.func f) #[] #[])

def evs (e : Env) : List Operand → Option (List Value)
  | [] => some []
  | x :: r => (ev e x).bind fun v => (evs e r).bind fun vs => some (v :: vs)

structure Fits (n : Nat) (ds : List Deferred) (e : Env) (a : Act) : Prop where
  size : a.tmps.size = n
  defers : a.defers = ds
  ok : ∀ t v, look e t = some v → a.tmps[t]? = some v

variable {P : Program} {n : Nat} {ds : List Deferred} {e : Env} {a : Act} {w : World}

theorem Fits.eval (h : Fits n ds e a) {x : Operand} {v : Value} (hx : ev e x = some v) : a.eval x = v := by
  cases x with
  | tmp t =>
    have := h.ok t v hx
    simp only [Act.eval, Array.getD_eq_getD_getElem?, this, Option.getD_some]
  | const u => exact Option.some.inj hx
  | global g => exact Option.some.inj hx
  | func f => exact Option.some.inj hx

theorem look_cons_same (d : Nat) (v : Value) (e : Env) : look ((d, v) :: e) d = some v := by
  simp [look]

theorem look_cons_ne {d t : Nat} (v : Value) (e : Env) (h : d ≠ t) : look ((d, v) :: e) t = look e t := by
  have : Nat.beq d t = false := by
    cases hb : Nat.beq d t with
    | false => rfl
    | true => exact absurd (Nat.eq_of_beq_eq_true hb) h
  simp [look, this]

theorem Fits.put (h : Fits n ds e a) {d : Nat} (hd : Nat.blt d n = true) (v : Value) : Fits n ds ((d, v) :: e) (a.put (some d) v) := by
  have hd' : d < n := by simpa [Nat.blt_eq] using hd
  refine ⟨by simp [Act.put, h.size], by simp [Act.put, h.defers], fun t u ht => ?_⟩
  by_cases hdt : d = t
  · subst hdt
    rw [look_cons_same] at ht
    simp only [Option.some.injEq] at ht
    subst ht
    simp [Act.put, h.size, hd']
  · rw [look_cons_ne _ _ hdt] at ht
    simp only [Act.put]
    rw [Array.getElem?_setIfInBounds_ne hdt]
    exact h.ok t u ht

/-- Fewer slots are known. -/
def Sub : Env → Env → Prop
  | [], _ => True
  | (k, v) :: r, e => look e k = some v ∧ Sub r e

theorem Sub.look : ∀ {e' e : Env}, Sub e' e → ∀ {t v}, look e' t = some v → look e t = some v
  | [], _, _, _, _, h => by simp [Hw.look] at h
  | (k, u) :: r, e, hs, t, v, h => by
    by_cases hk : k = t
    · subst hk
      rw [look_cons_same] at h
      simp only [Option.some.injEq] at h
      subst h
      exact hs.1
    · rw [look_cons_ne _ _ hk] at h
      exact Sub.look hs.2 h

theorem Fits.sub (h : Fits n ds e a) {e' : Env} (hs : Sub e' e) : Fits n ds e' a :=
  ⟨h.size, h.defers, fun _ _ ht => h.ok _ _ (hs.look ht)⟩

/-! ### Judgements -/

abbrev Post := Exit → Act → World → Prop

/-- A list of operations of a region. -/
def WL (P : Program) (ops : Array Oper) (Q : Post) (n : Nat) (ds : List Deferred) (e : Env) (S : World → Prop) (l : List Oper) : Prop :=
  ∀ a w, Fits n ds e a → S w → wpList P ops Q l a w

def WC (P : Program) (Q : Post) (n : Nat) (ds : List Deferred) (e : Env) (S : World → Prop) (c : Code) : Prop :=
  ∀ a w, Fits n ds e a → S w → c.wp P Q a w

def WX (Q : Post) (n : Nat) (ds : List Deferred) (e : Env) (S : World → Prop) (x : Exit) : Prop :=
  ∀ a w, Fits n ds e a → S w → Q x a w

/-- An operation that reads only: its value. -/
def OV (P : Program) (n : Nat) (ds : List Deferred) (e : Env) (S : World → Prop) (o : Oper) (v : Value) : Prop :=
  ∀ a w, Fits n ds e a → S w → (execOp a.eval o).run P w = .ok (.value v) w

section
variable {ops : Array Oper} {Q : Post} {S S' : World → Prop} {rest : List Oper} {o : Oper} {d : Nat} {v : Value}

theorem WL.sub {e' : Env} (hs : Sub e' e) {l : List Oper} (h : WL P ops Q n ds e' S l) : WL P ops Q n ds e S l :=
  fun a w ha hw => h a w (ha.sub hs) hw
theorem WC.sub {e' : Env} (hs : Sub e' e) {c : Code} (h : WC P Q n ds e' S c) : WC P Q n ds e S c :=
  fun a w ha hw => h a w (ha.sub hs) hw
theorem WX.sub {e' : Env} (hs : Sub e' e) {x : Exit} (h : WX Q n ds e' S x) : WX Q n ds e S x :=
  fun a w ha hw => h a w (ha.sub hs) hw
theorem WL.weak (hS : ∀ w, S w → S' w) {l : List Oper} (h : WL P ops Q n ds e S' l) : WL P ops Q n ds e S l :=
  fun a w ha hw => h a w ha (hS w hw)
theorem WC.weak (hS : ∀ w, S w → S' w) {c : Code} (h : WC P Q n ds e S' c) : WC P Q n ds e S c :=
  fun a w ha hw => h a w ha (hS w hw)
theorem WX.weak (hS : ∀ w, S w → S' w) {x : Exit} (h : WX Q n ds e S' x) : WX Q n ds e S x :=
  fun a w ha hw => h a w ha (hS w hw)

theorem WL.nil (h : WX Q n ds e S .normal) : WL P ops Q n ds e S [] := fun a w ha hw => wpList_nil (h a w ha hw)

theorem wanted_none (hg : o.guard = none) : Region.wanted o (yielded ops a.tmps) = true := by simp [Region.wanted, hg]

theorem WL.val {op : Op} {t : TypeId} {p : String} {af : Array Edge} (hv : OV P n ds e S ⟨some d, op, t, p, af, none⟩ v) (hd : Nat.blt d n = true)
    (h : WL P ops Q n ds ((d, v) :: e) S rest) : WL P ops Q n ds e S (⟨some d, op, t, p, af, none⟩ :: rest) := by
  intro a w ha hw
  unfold wpList
  rw [if_pos (wanted_none rfl)]
  refine Or.inl ?_
  unfold Oper.wp
  rw [hv a w ha hw]
  exact h _ _ (ha.put hd v) hw

theorem WL.skip {op : Op} {t : TypeId} {p : String} {af : Array Edge} {j : Nat} {want b : Bool} {dj : Nat}
    (hj : (ops[j]?).bind (·.dst) = some dj) (hb : look e dj = some (.bool b)) (hne : (b == want) = false) (hd : Nat.blt d n = true)
    (h : WL P ops Q n ds ((d, undef) :: e) S rest) : WL P ops Q n ds e S (⟨some d, op, t, p, af, some (j, want)⟩ :: rest) := by
  intro a w ha hw
  unfold wpList
  have hy : yielded ops a.tmps j = some b := by
    simp [yielded, hj, ha.ok _ _ hb]
  have : Region.wanted ⟨some d, op, t, p, af, some (j, want)⟩ (yielded ops a.tmps) = false := by
    simp only [Region.wanted, hy]
    simpa using hne
  rw [if_neg (by simp [this])]
  exact h _ _ (ha.put hd undef) hw

theorem execOp_guard (ρ : Operand → Value) (dst : Option Tmp) (op : Op) (t : TypeId) (p : String) (af : Array Edge) (g : Option (Nat × Bool)) :
    execOp ρ ⟨dst, op, t, p, af, g⟩ = execOp ρ ⟨dst, op, t, p, af, none⟩ := rfl

theorem WL.go {op : Op} {t : TypeId} {p : String} {af : Array Edge} {j : Nat} {want b : Bool} {dj : Nat}
    (hj : (ops[j]?).bind (·.dst) = some dj) (hb : look e dj = some (.bool b)) (hne : (b == want) = true)
    (h : WL P ops Q n ds e S (⟨some d, op, t, p, af, none⟩ :: rest)) : WL P ops Q n ds e S (⟨some d, op, t, p, af, some (j, want)⟩ :: rest) := by
  intro a w ha hw
  have h1 := h a w ha hw
  unfold wpList at h1 ⊢
  rw [if_pos (wanted_none rfl)] at h1
  have hy : yielded ops a.tmps j = some b := by simp [yielded, hj, ha.ok _ _ hb]
  have : Region.wanted ⟨some d, op, t, p, af, some (j, want)⟩ (yielded ops a.tmps) = true := by
    simp only [Region.wanted, hy]
    simpa using hne
  rw [if_pos this]
  exact h1

/-! ### Control -/
theorem WC.seq {x y : Code} (h : WC P (Exit.then (fun a w => y.wp P Q a w) Q) n ds e S x) : WC P Q n ds e S (.seq x y) :=
  fun a w ha hw => wp_seq (h a w ha hw)
theorem WX.next {y : Code} (h : WC P Q n ds e S y) : WX (Exit.then (fun a w => y.wp P Q a w) Q) n ds e S .normal :=
  fun a w ha hw => h a w ha hw
theorem WX.then_exit {K : Act → World → Prop} {i : Nat} (h : WX Q n ds e S (.exit i)) : WX (Exit.then K Q) n ds e S (.exit i) :=
  fun a w ha hw => h a w ha hw
theorem WX.then_ret {K : Act → World → Prop} (h : WX Q n ds e S .ret) : WX (Exit.then K Q) n ds e S .ret :=
  fun a w ha hw => h a w ha hw
theorem WX.then_panic {K : Act → World → Prop} {c : List PanicEntry} (h : WX Q n ds e S (.panic c)) : WX (Exit.then K Q) n ds e S (.panic c) :=
  fun a w ha hw => h a w ha hw
theorem WC.block {id : Nat} {c : Code} (h : WC P (Exit.inBlock id Q) n ds e S c) : WC P Q n ds e S (.block id c) :=
  fun a w ha hw => wp_block (h a w ha hw)
theorem WX.block_normal {id : Nat} (h : WX Q n ds e S .normal) : WX (Exit.inBlock id Q) n ds e S .normal := fun a w ha hw => h a w ha hw
theorem WX.block_hit {id : Nat} (h : WX Q n ds e S .normal) : WX (Exit.inBlock id Q) n ds e S (.exit id) :=
  fun a w ha hw => by show if id = id then _ else _; rw [if_pos rfl]; exact h a w ha hw
theorem WX.block_miss {id i : Nat} (hne : Nat.beq i id = false) (h : WX Q n ds e S (.exit i)) : WX (Exit.inBlock id Q) n ds e S (.exit i) :=
  fun a w ha hw => by
    have : i ≠ id := by intro h; subst h; simp at hne
    show if i = id then _ else _
    rw [if_neg this]; exact h a w ha hw
theorem WX.block_ret {id : Nat} (h : WX Q n ds e S .ret) : WX (Exit.inBlock id Q) n ds e S .ret := fun a w ha hw => h a w ha hw
theorem WX.block_panic {id : Nat} {c : List PanicEntry} (h : WX Q n ds e S (.panic c)) : WX (Exit.inBlock id Q) n ds e S (.panic c) := fun a w ha hw => h a w ha hw
theorem WC.ret (h : WX Q n ds e S .ret) : WC P Q n ds e S .ret := fun a w ha hw => wp_ret (h a w ha hw)
theorem WC.skip (h : WX Q n ds e S .normal) : WC P Q n ds e S .skip := fun a w ha hw => wp_skip (h a w ha hw)
theorem WC.exit {i : Nat} (h : WX Q n ds e S (.exit i)) : WC P Q n ds e S (.exit i) := fun a w ha hw => wp_exit (h a w ha hw)
theorem WC.region {id : Nat} {l : List Oper} (h : WL P l.toArray Q n ds e S l) : WC P Q n ds e S (.region id l.toArray false) :=
  fun a w ha hw => wp_region_lit (h a w ha hw)
theorem WC.cond {c : Operand} {x y : Code} {b : Bool} (hc : ev e c = some (.bool b)) (ht : b = true → WC P Q n ds e S x) (hf : b = false → WC P Q n ds e S y) :
    WC P Q n ds e S (.cond c x y) :=
  fun a w ha hw => wp_cond_split (ha.eval hc) (fun h => ht h a w ha hw) (fun h => hf h a w ha hw)
theorem WC.condT {c : Operand} {x y : Code} (hc : ev e c = some (.bool true)) (ht : WC P Q n ds e S x) : WC P Q n ds e S (.cond c x y) :=
  WC.cond hc (fun _ => ht) (fun h => by cases h)
theorem WC.condF {c : Operand} {x y : Code} (hc : ev e c = some (.bool false)) (hf : WC P Q n ds e S y) : WC P Q n ds e S (.cond c x y) :=
  WC.cond hc (fun h => by cases h) (fun _ => hf)

/-- A loop: its states are numbered by 'ι'; each round lowers the measure. -/
theorem WC.loop {ι : Type} {c : Code} (env : ι → Env) (R : ι → World → Prop) (μ : ι → Nat) (x0 : ι) (hs : Sub (env x0) e) (h0 : ∀ w, S w → R x0 w)
    (round : ∀ x, WC P (Exit.then (fun a w => ∃ x', Fits n ds (env x') a ∧ R x' w ∧ μ x' < μ x) Q) n ds (env x) (R x) c) : WC P Q n ds e S (.loop c) := by
  intro a w ha hw b k cs
  have key : ∀ m x a w, μ x = m → Fits n ds (env x) a → R x w →
      ∃ e a' w', Q e a' w' ∧ Arrives P (lone (b.at a (.code c :: .inLoop c :: k)) cs w) b k cs e a' w' := by
    intro m
    induction m using Nat.strongRecOn with
    | _ m ih =>
      intro x a w hm ha hw
      obtain ⟨e, a₁, w₁, hq, harr⟩ := round x a w ha hw b (.inLoop c :: k) cs
      cases e with
      | normal =>
        obtain ⟨x', ha', hw', hlt⟩ := hq
        obtain ⟨e₂, a₂, w₂, hq₂, harr₂⟩ := ih (μ x') (hm ▸ hlt) x' a₁ w₁ rfl ha' hw'
        exact ⟨e₂, a₂, w₂, hq₂, .of_steps (Steps.trans harr (.one step_inLoop)) harr₂⟩
      | exit id => exact ⟨_, a₁, w₁, hq, .pass (x := .inLoop c) rfl (fun _ _ => .inl (by simp)) harr⟩
      | goto l => exact ⟨_, a₁, w₁, hq, .pass (x := .inLoop c) rfl (fun _ _ => .inl (by simp)) harr⟩
      | ret => exact ⟨_, a₁, w₁, hq, .pass (x := .inLoop c) rfl (fun _ _ => .inl (by simp)) harr⟩
      | panic ch => exact ⟨_, a₁, w₁, hq, .pass (x := .inLoop c) rfl (fun _ _ => .inl (by simp)) harr⟩
      | outgrown => exact ⟨_, a₁, w₁, hq, .pass (x := .inLoop c) rfl (fun _ _ => .inl (by simp)) harr⟩
  obtain ⟨e, a', w', hq, harr⟩ := key _ x0 a w rfl (ha.sub hs) (h0 w hw)
  exact ⟨e, a', w', hq, .of_steps (.one step_loop) harr⟩

theorem WX.round {ι : Type} {env : ι → Env} {R : ι → World → Prop} {μ : ι → Nat} {x : ι} (x' : ι) (hs : Sub (env x') e) (hR : ∀ w, S w → R x' w) (hlt : μ x' < μ x) :
    WX (Exit.then (fun a w => ∃ x', Fits n ds (env x') a ∧ R x' w ∧ μ x' < μ x) Q) n ds e S .normal :=
  fun _ w ha hw => ⟨x', ha.sub hs, hR w hw, hlt⟩

end
end Go.Hw
