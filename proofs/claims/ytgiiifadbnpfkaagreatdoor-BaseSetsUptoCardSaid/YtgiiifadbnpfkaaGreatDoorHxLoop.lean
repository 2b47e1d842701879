/- The loop's rule with its state in some variables; equality; answers. -/
import Derived.Test.YtgiiifadbnpfkaaGreatDoorHxRow
import Derived.Laws.StructEq
import Derived.ProofKit
import Derived.OpenShut
import Derived.ShutString
import Derived.ChangeOld
import Derived.SizedLaws
namespace Go.Hw
set_option linter.unusedVariables false
open Go Go.RowKit
variable {P : Program} {Q Q' : Post} {n : Nat} {ds : DS} {e : Env} {c : Code} {S : World → Prop}
theorem WC.mono (h : WC P Q n ds e S c) (hq : ∀ ex a w, Q ex a w → Q' ex a w) : WC P Q' n ds e S c := fun a w ha hw => Go.wpIn_mono (h a w ha hw) hq

theorem WC.loop1 {α : Type} (env : α → Env) (R : α → World → Prop) (μ : α → Nat) (x0 : α) (hs : Sub (env x0) e) (h0 : ∀ w, S w → R x0 w)
    (round : ∀ x, WC P (Exit.then (fun a w => ∃ x', Fits n ds (env x') a ∧ R x' w ∧ μ x' < μ x) Q) n ds (env x) (R x) c) : WC P Q n ds e S (.loop c) := by
  refine WC.loop (ι := α) (fun q => env q) (fun q => R q) (fun q => μ q) x0 hs h0 (fun q => ?_)
  refine (round q).mono ?_
  intro ex a w hq
  cases ex with
  | normal => obtain ⟨x', h⟩ := hq; exact ⟨x', h⟩
  | _ => exact hq
theorem WX.round1 {α : Type} {env : α → Env} {R : α → World → Prop} {μ : α → Nat} {m : Nat} (x : α) (hs : Sub (env x) e) (hR : ∀ w, S w → R x w) (hlt : μ x < m) :
    WX (Exit.then (fun a w => ∃ x', Fits n ds (env x') a ∧ R x' w ∧ μ x' < m) Q) n ds e S .normal :=
  fun _ w ha hw => ⟨x, ha.sub hs, hR w hw, hlt⟩

theorem WC.loop2 {α β : Type} (env : α → β → Env) (R : α → β → World → Prop) (μ : α → β → Nat) (x0 : α) (y0 : β) (hs : Sub (env x0 y0) e) (h0 : ∀ w, S w → R x0 y0 w)
    (round : ∀ x y, WC P (Exit.then (fun a w => ∃ x' y', Fits n ds (env x' y') a ∧ R x' y' w ∧ μ x' y' < μ x y) Q) n ds (env x y) (R x y) c) : WC P Q n ds e S (.loop c) := by
  refine WC.loop (ι := α × β) (fun q => env q.1 q.2) (fun q => R q.1 q.2) (fun q => μ q.1 q.2) (x0, y0) hs h0 (fun q => ?_)
  refine (round q.1 q.2).mono ?_
  intro ex a w hq
  cases ex with
  | normal => obtain ⟨x', y', h⟩ := hq; exact ⟨(x', y'), h⟩
  | _ => exact hq
theorem WX.round2 {α β : Type} {env : α → β → Env} {R : α → β → World → Prop} {μ : α → β → Nat} {m : Nat} (x : α) (y : β) (hs : Sub (env x y) e) (hR : ∀ w, S w → R x y w) (hlt : μ x y < m) :
    WX (Exit.then (fun a w => ∃ x' y', Fits n ds (env x' y') a ∧ R x' y' w ∧ μ x' y' < m) Q) n ds e S .normal :=
  fun _ w ha hw => ⟨x, y, ha.sub hs, hR w hw, hlt⟩

theorem WC.loop3 {α β γ : Type} (env : α → β → γ → Env) (R : α → β → γ → World → Prop) (μ : α → β → γ → Nat) (x0 : α) (y0 : β) (z0 : γ) (hs : Sub (env x0 y0 z0) e) (h0 : ∀ w, S w → R x0 y0 z0 w)
    (round : ∀ x y z, WC P (Exit.then (fun a w => ∃ x' y' z', Fits n ds (env x' y' z') a ∧ R x' y' z' w ∧ μ x' y' z' < μ x y z) Q) n ds (env x y z) (R x y z) c) : WC P Q n ds e S (.loop c) := by
  refine WC.loop (ι := α × β × γ) (fun q => env q.1 q.2.1 q.2.2) (fun q => R q.1 q.2.1 q.2.2) (fun q => μ q.1 q.2.1 q.2.2) (x0, y0, z0) hs h0 (fun q => ?_)
  refine (round q.1 q.2.1 q.2.2).mono ?_
  intro ex a w hq
  cases ex with
  | normal => obtain ⟨x', y', z', h⟩ := hq; exact ⟨(x', y', z'), h⟩
  | _ => exact hq
theorem WX.round3 {α β γ : Type} {env : α → β → γ → Env} {R : α → β → γ → World → Prop} {μ : α → β → γ → Nat} {m : Nat} (x : α) (y : β) (z : γ) (hs : Sub (env x y z) e) (hR : ∀ w, S w → R x y z w) (hlt : μ x y z < m) :
    WX (Exit.then (fun a w => ∃ x' y' z', Fits n ds (env x' y' z') a ∧ R x' y' z' w ∧ μ x' y' z' < m) Q) n ds e S .normal :=
  fun _ w ha hw => ⟨x, y, z, ha.sub hs, hR w hw, hlt⟩

theorem WC.loop4 {α β γ δ : Type} (env : α → β → γ → δ → Env) (R : α → β → γ → δ → World → Prop) (μ : α → β → γ → δ → Nat) (x0 : α) (y0 : β) (z0 : γ) (u0 : δ) (hs : Sub (env x0 y0 z0 u0) e) (h0 : ∀ w, S w → R x0 y0 z0 u0 w)
    (round : ∀ x y z u, WC P (Exit.then (fun a w => ∃ x' y' z' u', Fits n ds (env x' y' z' u') a ∧ R x' y' z' u' w ∧ μ x' y' z' u' < μ x y z u) Q) n ds (env x y z u) (R x y z u) c) : WC P Q n ds e S (.loop c) := by
  refine WC.loop (ι := α × β × γ × δ) (fun q => env q.1 q.2.1 q.2.2.1 q.2.2.2) (fun q => R q.1 q.2.1 q.2.2.1 q.2.2.2) (fun q => μ q.1 q.2.1 q.2.2.1 q.2.2.2) (x0, y0, z0, u0) hs h0 (fun q => ?_)
  refine (round q.1 q.2.1 q.2.2.1 q.2.2.2).mono ?_
  intro ex a w hq
  cases ex with
  | normal => obtain ⟨x', y', z', u', h⟩ := hq; exact ⟨(x', y', z', u'), h⟩
  | _ => exact hq
theorem WX.round4 {α β γ δ : Type} {env : α → β → γ → δ → Env} {R : α → β → γ → δ → World → Prop} {μ : α → β → γ → δ → Nat} {m : Nat} (x : α) (y : β) (z : γ) (u : δ) (hs : Sub (env x y z u) e) (hR : ∀ w, S w → R x y z u w) (hlt : μ x y z u < m) :
    WX (Exit.then (fun a w => ∃ x' y' z' u', Fits n ds (env x' y' z' u') a ∧ R x' y' z' u' w ∧ μ x' y' z' u' < m) Q) n ds e S .normal :=
  fun _ w ha hw => ⟨x, y, z, u, ha.sub hs, hR w hw, hlt⟩

theorem WC.loop5 {α β γ δ ε : Type} (env : α → β → γ → δ → ε → Env) (R : α → β → γ → δ → ε → World → Prop) (μ : α → β → γ → δ → ε → Nat) (x0 : α) (y0 : β) (z0 : γ) (u0 : δ) (v0 : ε) (hs : Sub (env x0 y0 z0 u0 v0) e) (h0 : ∀ w, S w → R x0 y0 z0 u0 v0 w)
    (round : ∀ x y z u v, WC P (Exit.then (fun a w => ∃ x' y' z' u' v', Fits n ds (env x' y' z' u' v') a ∧ R x' y' z' u' v' w ∧ μ x' y' z' u' v' < μ x y z u v) Q) n ds (env x y z u v) (R x y z u v) c) : WC P Q n ds e S (.loop c) := by
  refine WC.loop (ι := α × β × γ × δ × ε) (fun q => env q.1 q.2.1 q.2.2.1 q.2.2.2.1 q.2.2.2.2) (fun q => R q.1 q.2.1 q.2.2.1 q.2.2.2.1 q.2.2.2.2) (fun q => μ q.1 q.2.1 q.2.2.1 q.2.2.2.1 q.2.2.2.2) (x0, y0, z0, u0, v0) hs h0 (fun q => ?_)
  refine (round q.1 q.2.1 q.2.2.1 q.2.2.2.1 q.2.2.2.2).mono ?_
  intro ex a w hq
  cases ex with
  | normal => obtain ⟨x', y', z', u', v', h⟩ := hq; exact ⟨(x', y', z', u', v'), h⟩
  | _ => exact hq
theorem WX.round5 {α β γ δ ε : Type} {env : α → β → γ → δ → ε → Env} {R : α → β → γ → δ → ε → World → Prop} {μ : α → β → γ → δ → ε → Nat} {m : Nat} (x : α) (y : β) (z : γ) (u : δ) (v : ε) (hs : Sub (env x y z u v) e) (hR : ∀ w, S w → R x y z u v w) (hlt : μ x y z u v < m) :
    WX (Exit.then (fun a w => ∃ x' y' z' u' v', Fits n ds (env x' y' z' u' v') a ∧ R x' y' z' u' v' w ∧ μ x' y' z' u' v' < m) Q) n ds e S .normal :=
  fun _ w ha hw => ⟨x, y, z, u, v, ha.sub hs, hR w hw, hlt⟩

theorem WC.loop6 {α β γ δ ε ζ : Type} (env : α → β → γ → δ → ε → ζ → Env) (R : α → β → γ → δ → ε → ζ → World → Prop) (μ : α → β → γ → δ → ε → ζ → Nat) (x0 : α) (y0 : β) (z0 : γ) (u0 : δ) (v0 : ε) (s0 : ζ) (hs : Sub (env x0 y0 z0 u0 v0 s0) e) (h0 : ∀ w, S w → R x0 y0 z0 u0 v0 s0 w)
    (round : ∀ x y z u v s, WC P (Exit.then (fun a w => ∃ x' y' z' u' v' s', Fits n ds (env x' y' z' u' v' s') a ∧ R x' y' z' u' v' s' w ∧ μ x' y' z' u' v' s' < μ x y z u v s) Q) n ds (env x y z u v s) (R x y z u v s) c) : WC P Q n ds e S (.loop c) := by
  refine WC.loop (ι := α × β × γ × δ × ε × ζ) (fun q => env q.1 q.2.1 q.2.2.1 q.2.2.2.1 q.2.2.2.2.1 q.2.2.2.2.2) (fun q => R q.1 q.2.1 q.2.2.1 q.2.2.2.1 q.2.2.2.2.1 q.2.2.2.2.2) (fun q => μ q.1 q.2.1 q.2.2.1 q.2.2.2.1 q.2.2.2.2.1 q.2.2.2.2.2) (x0, y0, z0, u0, v0, s0) hs h0 (fun q => ?_)
  refine (round q.1 q.2.1 q.2.2.1 q.2.2.2.1 q.2.2.2.2.1 q.2.2.2.2.2).mono ?_
  intro ex a w hq
  cases ex with
  | normal => obtain ⟨x', y', z', u', v', s', h⟩ := hq; exact ⟨(x', y', z', u', v', s'), h⟩
  | _ => exact hq
theorem WX.round6 {α β γ δ ε ζ : Type} {env : α → β → γ → δ → ε → ζ → Env} {R : α → β → γ → δ → ε → ζ → World → Prop} {μ : α → β → γ → δ → ε → ζ → Nat} {m : Nat} (x : α) (y : β) (z : γ) (u : δ) (v : ε) (s : ζ) (hs : Sub (env x y z u v s) e) (hR : ∀ w, S w → R x y z u v s w) (hlt : μ x y z u v s < m) :
    WX (Exit.then (fun a w => ∃ x' y' z' u' v' s', Fits n ds (env x' y' z' u' v' s') a ∧ R x' y' z' u' v' s' w ∧ μ x' y' z' u' v' s' < m) Q) n ds e S .normal :=
  fun _ w ha hw => ⟨x, y, z, u, v, s, ha.sub hs, hR w hw, hlt⟩

theorem WC.loop7 {α β γ δ ε ζ η : Type} (env : α → β → γ → δ → ε → ζ → η → Env) (R : α → β → γ → δ → ε → ζ → η → World → Prop) (μ : α → β → γ → δ → ε → ζ → η → Nat) (x0 : α) (y0 : β) (z0 : γ) (u0 : δ) (v0 : ε) (s0 : ζ) (t0 : η) (hs : Sub (env x0 y0 z0 u0 v0 s0 t0) e) (h0 : ∀ w, S w → R x0 y0 z0 u0 v0 s0 t0 w)
    (round : ∀ x y z u v s t, WC P (Exit.then (fun a w => ∃ x' y' z' u' v' s' t', Fits n ds (env x' y' z' u' v' s' t') a ∧ R x' y' z' u' v' s' t' w ∧ μ x' y' z' u' v' s' t' < μ x y z u v s t) Q) n ds (env x y z u v s t) (R x y z u v s t) c) : WC P Q n ds e S (.loop c) := by
  refine WC.loop (ι := α × β × γ × δ × ε × ζ × η) (fun q => env q.1 q.2.1 q.2.2.1 q.2.2.2.1 q.2.2.2.2.1 q.2.2.2.2.2.1 q.2.2.2.2.2.2) (fun q => R q.1 q.2.1 q.2.2.1 q.2.2.2.1 q.2.2.2.2.1 q.2.2.2.2.2.1 q.2.2.2.2.2.2) (fun q => μ q.1 q.2.1 q.2.2.1 q.2.2.2.1 q.2.2.2.2.1 q.2.2.2.2.2.1 q.2.2.2.2.2.2) (x0, y0, z0, u0, v0, s0, t0) hs h0 (fun q => ?_)
  refine (round q.1 q.2.1 q.2.2.1 q.2.2.2.1 q.2.2.2.2.1 q.2.2.2.2.2.1 q.2.2.2.2.2.2).mono ?_
  intro ex a w hq
  cases ex with
  | normal => obtain ⟨x', y', z', u', v', s', t', h⟩ := hq; exact ⟨(x', y', z', u', v', s', t'), h⟩
  | _ => exact hq
theorem WX.round7 {α β γ δ ε ζ η : Type} {env : α → β → γ → δ → ε → ζ → η → Env} {R : α → β → γ → δ → ε → ζ → η → World → Prop} {μ : α → β → γ → δ → ε → ζ → η → Nat} {m : Nat} (x : α) (y : β) (z : γ) (u : δ) (v : ε) (s : ζ) (t : η) (hs : Sub (env x y z u v s t) e) (hR : ∀ w, S w → R x y z u v s t w) (hlt : μ x y z u v s t < m) :
    WX (Exit.then (fun a w => ∃ x' y' z' u' v' s' t', Fits n ds (env x' y' z' u' v' s' t') a ∧ R x' y' z' u' v' s' t' w ∧ μ x' y' z' u' v' s' t' < m) Q) n ds e S .normal :=
  fun _ w ha hw => ⟨x, y, z, u, v, s, t, ha.sub hs, hR w hw, hlt⟩

theorem WC.loop8 {α β γ δ ε ζ η θ : Type} (env : α → β → γ → δ → ε → ζ → η → θ → Env) (R : α → β → γ → δ → ε → ζ → η → θ → World → Prop) (μ : α → β → γ → δ → ε → ζ → η → θ → Nat) (x0 : α) (y0 : β) (z0 : γ) (u0 : δ) (v0 : ε) (s0 : ζ) (t0 : η) (r0 : θ) (hs : Sub (env x0 y0 z0 u0 v0 s0 t0 r0) e) (h0 : ∀ w, S w → R x0 y0 z0 u0 v0 s0 t0 r0 w)
    (round : ∀ x y z u v s t r, WC P (Exit.then (fun a w => ∃ x' y' z' u' v' s' t' r', Fits n ds (env x' y' z' u' v' s' t' r') a ∧ R x' y' z' u' v' s' t' r' w ∧ μ x' y' z' u' v' s' t' r' < μ x y z u v s t r) Q) n ds (env x y z u v s t r) (R x y z u v s t r) c) : WC P Q n ds e S (.loop c) := by
  refine WC.loop (ι := α × β × γ × δ × ε × ζ × η × θ) (fun q => env q.1 q.2.1 q.2.2.1 q.2.2.2.1 q.2.2.2.2.1 q.2.2.2.2.2.1 q.2.2.2.2.2.2.1 q.2.2.2.2.2.2.2) (fun q => R q.1 q.2.1 q.2.2.1 q.2.2.2.1 q.2.2.2.2.1 q.2.2.2.2.2.1 q.2.2.2.2.2.2.1 q.2.2.2.2.2.2.2) (fun q => μ q.1 q.2.1 q.2.2.1 q.2.2.2.1 q.2.2.2.2.1 q.2.2.2.2.2.1 q.2.2.2.2.2.2.1 q.2.2.2.2.2.2.2) (x0, y0, z0, u0, v0, s0, t0, r0) hs h0 (fun q => ?_)
  refine (round q.1 q.2.1 q.2.2.1 q.2.2.2.1 q.2.2.2.2.1 q.2.2.2.2.2.1 q.2.2.2.2.2.2.1 q.2.2.2.2.2.2.2).mono ?_
  intro ex a w hq
  cases ex with
  | normal => obtain ⟨x', y', z', u', v', s', t', r', h⟩ := hq; exact ⟨(x', y', z', u', v', s', t', r'), h⟩
  | _ => exact hq
theorem WX.round8 {α β γ δ ε ζ η θ : Type} {env : α → β → γ → δ → ε → ζ → η → θ → Env} {R : α → β → γ → δ → ε → ζ → η → θ → World → Prop} {μ : α → β → γ → δ → ε → ζ → η → θ → Nat} {m : Nat} (x : α) (y : β) (z : γ) (u : δ) (v : ε) (s : ζ) (t : η) (r : θ) (hs : Sub (env x y z u v s t r) e) (hR : ∀ w, S w → R x y z u v s t r w) (hlt : μ x y z u v s t r < m) :
    WX (Exit.then (fun a w => ∃ x' y' z' u' v' s' t' r', Fits n ds (env x' y' z' u' v' s' t' r') a ∧ R x' y' z' u' v' s' t' r' w ∧ μ x' y' z' u' v' s' t' r' < m) Q) n ds e S .normal :=
  fun _ w ha hw => ⟨x, y, z, u, v, s, t, r, ha.sub hs, hR w hw, hlt⟩

end Go.Hw

namespace Go.Hw
set_option linter.unusedVariables false
set_option linter.unusedSimpArgs false
open Go Go.RowKit
variable {P : Program} {n : Nat} {ds : DS} {e : Env} {S : World → Prop} {dst : Option Tmp} {t t' : TypeId} {p : String} {af : Array Edge} {g : Option (Nat × Bool)}
variable {x y z : Operand} {v u : Value} {xt yt : TypeId} {w : World}

theorem forIn_early (f : Nat → Option Bool × PUnit → Sem (ForInStep (Option Bool × PUnit))) (ok : Nat → Bool) :
    ∀ (l : List Nat), (∀ i ∈ l, ∀ r, (f i r).run P w = .ok (if ok i then .yield (none, ⟨⟩) else .done (some false, ⟨⟩)) w) → (forIn l ((none, ⟨⟩) : Option Bool × PUnit) f).run P w = .ok (if l.all ok then (none, ⟨⟩) else (some false, ⟨⟩)) w
  | [], _ => by simp
  | i :: l, hf => by
    have ih := forIn_early f ok l (fun j hj => hf j (.tail _ hj))
    simp only [List.forIn_cons, Sem.run_bind, hf i (.head _)]
    cases h : ok i with
    | true => simp [h, Result.andThen, ih]
    | false => simp [h, Result.andThen]

theorem run_equalIn_u8s (d : Nat) {len el : TypeId} (hu : P.underlying t = some (.array len el)) (hue : P.underlying el = some (.int .u8)) (hz : P.sz el = some 1) (xs ys : List UInt8) (hx : xs.length = len) (hy : ys.length = len) :
    (Op.equalIn (d + 2) t (.agg (u8s xs).toArray) (.agg (u8s ys).toArray)).run P w = .ok (decide (xs = ys)) w := by
  have hpart : ∀ (zs : List UInt8) i, i < zs.length → (part el (u8s zs).toArray (i * 1)).run P w = .ok (b8 (zs.getD i 0)) w := by
    intro zs i hi
    simp [part, run_isAgg hue, aggD, u8s, hi]
  have hel : ∀ a b : UInt8, (Op.equalIn (d + 1) el (b8 a) (b8 b)).run P w = .ok (decide (a = b)) w := by
    intro a b
    rw [run_equalIn_int w d el .u8 .u8 _ _ hue]
    congr 1
    rw [Bool.eq_iff_iff]
    simp only [beq_iff_eq, decide_eq_true_eq]
    exact ⟨fun h => UInt8.toNat_inj.1 (by omega), fun h => by rw [h]⟩
  unfold Op.equalIn
  simp only [Sem.run_bind, run_underlying hu, Result.andThen_ok, run_sizeOf hz]
  rw [Std.Legacy.Range.forIn_eq_forIn_range']
  have hsz : (Std.Legacy.Range.size [0:len]) = len := by simp [Std.Legacy.Range.size]
  rw [forIn_early _ (fun i => decide (xs.getD i 0 = ys.getD i 0))]
  · simp only [Result.andThen_ok]
    have hall : ((List.range' [0:len].start [0:len].size [0:len].step).all fun i => decide (xs.getD i 0 = ys.getD i 0)) = decide (xs = ys) := by
      rw [hsz, Bool.eq_iff_iff]
      simp only [List.all_eq_true, List.mem_range'_1, decide_eq_true_eq]
      constructor
      · intro h
        apply List.ext_getElem (by omega)
        intro i h1 h2
        have := h i (by simp; omega)
        simpa [h1, h2] using this
      · rintro rfl i _; rfl
    rw [hall]
    cases decide (xs = ys) <;> rfl
  · intro i hi r
    rw [hsz] at hi
    have hi' : i < len := by simpa using hi
    simp only [Sem.run_bind, hpart xs i (by omega), hpart ys i (by omega), Result.andThen_ok, hel]
    cases decide (xs.getD i 0 = ys.getD i 0) <;> rfl

def Program.noGuard (P : Program) (t : TypeId) : Bool := !(P.eqGuardType P.depth t)
theorem OV.eqlA {len el : TypeId} {xs ys : List UInt8} (hu : P.underlying xt = some (.array len el)) (hue : P.underlying el = some (.int .u8)) (hz : P.sz el = some 1) (hm : P.eqGuardType P.depth xt = false) (hx : ev e x = some (.agg (u8s xs).toArray)) (hy : ev e y = some (.agg (u8s ys).toArray)) (h1 : xs.length = len) (h2 : ys.length = len) :
    OV P n ds e S ⟨dst, .binOp .eql xt x y yt, t, p, af, g⟩ (.bool (decide (xs = ys))) := fun a w ha _ => by
  have h := run_equalIn_u8s (P := P) (w := w) 9998 hu hue hz xs ys h1 h2
  simp only [execOp, Sem.run_bind, ha.eval hx, ha.eval hy, run_eqGuard_agg w .eql xt x y _ _ hm, run_eql_struct, Result.andThen_ok, h]
  rfl
theorem OV.neqA {len el : TypeId} {xs ys : List UInt8} (hu : P.underlying xt = some (.array len el)) (hue : P.underlying el = some (.int .u8)) (hz : P.sz el = some 1) (hm : P.eqGuardType P.depth xt = false) (hx : ev e x = some (.agg (u8s xs).toArray)) (hy : ev e y = some (.agg (u8s ys).toArray)) (h1 : xs.length = len) (h2 : ys.length = len) :
    OV P n ds e S ⟨dst, .binOp .neq xt x y yt, t, p, af, g⟩ (.bool (!decide (xs = ys))) := fun a w ha _ => by
  have h := run_equalIn_u8s (P := P) (w := w) 9998 hu hue hz xs ys h1 h2
  simp only [execOp, Sem.run_bind, ha.eval hx, ha.eval hy, run_eqGuard_agg w .neq xt x y _ _ hm, run_neq_struct, Result.andThen_ok, h]
  rfl

theorem beq_toList (s u : ByteArray) : (s.toList == u.toList) = decide (s = u) := by
  rw [ByteArray.toList_eq, ByteArray.toList_eq]
  obtain ⟨⟨x⟩⟩ := s
  obtain ⟨⟨y⟩⟩ := u
  rw [Bool.eq_iff_iff]
  simp
theorem OV.eqlS {s u : ByteArray} (hx : ev e x = some (.string s)) (hy : ev e y = some (.string u)) : OV P n ds e S ⟨dst, .binOp .eql xt x y yt, t, p, af, g⟩ (.bool (decide (s = u))) := fun _ w ha _ => by
  simp [execOp, ha.eval hx, ha.eval hy, eqGuard_at_string, binOp, Op.stringOp, beq_toList]
theorem OV.neqS {s u : ByteArray} (hx : ev e x = some (.string s)) (hy : ev e y = some (.string u)) : OV P n ds e S ⟨dst, .binOp .neq xt x y yt, t, p, af, g⟩ (.bool (!decide (s = u))) := fun _ w ha _ => by
  simp [execOp, ha.eval hx, ha.eval hy, eqGuard_at_string, binOp, Op.stringOp, beq_toList]
theorem OV.eqlB {a b : Bool} (hu : P.underlying xt = some .bool) (hx : ev e x = some (.bool a)) (hy : ev e y = some (.bool b)) : OV P n ds e S ⟨dst, .binOp .eql xt x y yt, t, p, af, g⟩ (.bool (decide (a = b))) := fun _ w ha _ => by
  simp [execOp, ha.eval hx, ha.eval hy, eqGuard_at_bool, run_eql_bool w xt a b hu]
  cases a <;> cases b <;> rfl
end Go.Hw

namespace Go.Hw
set_option linter.unusedVariables false
set_option linter.unusedSimpArgs false
open Go Go.RowKit Go.ChangeShapes Go.WideShapes Go.ChangeAt
variable {H : Type} {enc : TypeId × Value → H} {P : Program} {w : World} {base : Nat} {spare : Nat → Bool} {held : Bool} {r : Reach} {b0 : Nat}

theorem trod_u8 {e : TypeId} {fuel : Nat} {cs : List Value} {y : DataW H × List MemPlace} (hu : P.underlying e = some (.int .u8)) (h : DataW.trod enc P w base spare held fuel e cs = some y) : ∃ c : UInt8, cs = [b8 c] ∧ y = (.lit (.int .u8 c.toNat), []) := by
  obtain ⟨n, hcs, rfl, hwf⟩ := DataW.trod_int hu h
  have hb := bounds_u8 hwf
  have hn : ((UInt8.ofNat n.toNat).toNat : Int) = n := by
    rw [UInt8.toNat_ofNat']
    omega
  exact ⟨UInt8.ofNat n.toNat, by simp only [b8, hn]; exact hcs, by simp only [hn]⟩

theorem open_arr8 {t e : TypeId} {n : Nat} {v : Value} {d : DataW H} {p : List MemPlace} (ht : P.underlying t = some (.array n e)) (hu : P.underlying e = some (.int .u8)) (h1 : P.cellsOf e = 1) (hC : P.cellsOf t = n)
    (hv : Value.okWide P w r b0 t v) (h : DataW.Trod enc P w base spare held t v d p) : ∃ D : List UInt8, v = .agg (u8s D).toArray ∧ D.length = n := by
  have hcs : ∃ cs, v = .agg cs ∧ cs.size = P.cellsOf t := by
    unfold Value.okWide at hv
    rw [ht] at hv
    obtain ⟨cs, h1, h2, _⟩ := hv
    exact ⟨cs, h1, h2⟩
  obtain ⟨cs, rfl, hsz⟩ := hcs
  obtain ⟨fuel, hf⟩ := h
  obtain ⟨xs, m, _, _, hl, hxs, hall⟩ := DataW.trod_array ht hf
  simp only [Value.cells] at hl hall
  have key : ∀ i, i < n → ∃ c : UInt8, cs.toList[i]? = some (b8 c) := by
    intro i hi
    have h2 := hall i hi
    rw [h1, Nat.mul_one] at h2
    have h3 : i < xs.length := by omega
    rw [List.getElem?_eq_getElem h3] at h2
    obtain ⟨c, hc, _⟩ := trod_u8 hu h2
    refine ⟨c, ?_⟩
    have h4 := congrArg (fun l : List Value => l[0]?) hc
    simpa [List.getElem?_take, List.getElem?_drop] using h4
  refine ⟨(List.range n).map fun i => match cs.toList[i]? with | some (Value.int _ k) => UInt8.ofNat k.toNat | _ => 0, ?_, by simp⟩
  congr 1
  apply Array.ext'
  apply List.ext_getElem?
  intro i
  by_cases hi : i < n
  · obtain ⟨c, hc⟩ := key i hi
    have hc' : cs[i]? = some (b8 c) := by simpa using hc
    simp [u8s, hi, hc']
  · have : ¬ i < cs.toList.length := by simp; omega
    rw [List.getElem?_eq_none (by omega), List.getElem?_eq_none (by simp [u8s]; omega)]
end Go.Hw
