/- What a lock does where one goroutine runs. -/
import Derived.Test.YtijplknkpkmblaaGreatDoorHxSort
import Derived.Laws.LoneSync
namespace Go.Hw
set_option linter.unusedVariables false
set_option linter.unusedSimpArgs false
open Go Go.RowKit
variable {w0 ws w w' : World} {M I : Nat → Prop} {A A' ow : List Item} {i j : Item}
variable {P : Program} {ops : Array Oper} {Q : Post} {n : Nat} {ds : DS} {e : Env} {rest : List Oper} {c : Code}
variable {dst : Option Tmp} {t lt : TypeId} {p : String} {af : Array Edge} {x y z : Operand} {v u : Value} {d : TypeDesc} {S S' : World → Prop} {k : Nat}
theorem OV.toUnsafe {src dt el : TypeId} {a : Addr} {v : Value} {g : Option (Nat × Bool)} (hs : P.underlying src = some (.pointer el)) (hd : P.underlying dt = some .unsafePointer) (hsz : (P.info? el).map (fun i => decide (i.size = 0)) = some false) (hx : ev e x = some (.pointer (some a))) (hc : ∀ w, S w → w.cell? a = some v) :
    OV P n ds e S ⟨dst, .convert src dt x, t, p, af, g⟩ (.pointer (some a)) := fun _ w ha hw => by
  have := run_convert_to_unsafe hs hd hsz (hc w hw)
  simp [execOp, ha.eval hx, this]
theorem WL.extern0 {f : FuncId} {xs : List Operand} {vs : List Value} {ats : Array TypeId} (hv : evs e xs = some vs) (hk : Nat.blt k n = true)
    (hc : ∀ w, S w → (callFunc f vs.toArray).run P w = .ok (.value v) w)
    (h : WL P ops Q n ds ((k, v) :: e) S rest) : WL P ops Q n ds e S (⟨some k, .call ⟨.value (.func f), xs.toArray, ats⟩, t, p, af, none⟩ :: rest) :=
  WL.extern (ι := Unit) (vv := fun _ => v) (SS := fun _ => S) hv hk (fun w hw => ⟨(), w, hc w hw, hw⟩) (fun _ => h)
/-- .. that stores into a cell of the first item. -/
theorem WL.extern1 {f : FuncId} {xs : List Operand} {vs : List Value} {ats : Array TypeId} {b o : Nat} {cs : List Value} {T : TypeId} {u : Value} (hv : evs e xs = some vs) (hk : Nat.blt k n = true)
    (hc : ∀ w, w.heap[b]? = some (.cells cs.toArray T (0, 0)) → (callFunc f vs.toArray).run P w = .ok (.value v) (w.setCell ⟨b, o, none⟩ u))
    (h : WL P ops Q n ds ((k, v) :: e) (Sat w0 M I ws (own b (.cells (cs.set o u).toArray T (0, 0)) :: ow)) rest) : WL P ops Q n ds e (Sat w0 M I ws (own b (.cells cs.toArray T (0, 0)) :: ow)) (⟨some k, .call ⟨.value (.func f), xs.toArray, ats⟩, t, p, af, none⟩ :: rest) := by
  refine WL.extern (ι := Unit) (vv := fun _ => v) (SS := fun _ => Sat w0 M I ws (own b (.cells (cs.set o u).toArray T (0, 0)) :: ow)) hv hk (fun w hw => ?_) (fun _ => h)
  have hb : w.heap[b]? = some (.cells cs.toArray T (0, 0)) := hw.it _ (.head _)
  exact ⟨(), _, hc w hb, hw.store (by rw [setCell_eq_setRow w b o cs.toArray T (0, 0) u hb]; simp)⟩
theorem WX.ret3 {fn : Func} {ex : Exit} (hx : isEnd ex = true) {R : Ending → World → Prop} {t1 t2 t3 : Tmp} {v1 v2 v3 : Value} (hr : fn.results = #[.tmp t1, .tmp t2, .tmp t3]) (h1 : look e t1 = some v1) (h2 : look e t2 = some v2) (h3 : look e t3 = some v3) (h : ∀ w, S w → R (.returned (.tuple #[v1, v2, v3])) w) : WX (bodyPostM Fence.wide 0 P fn R) n {} e S ex := by
  refine WX.ends hx ?_
  intro a w ha hw
  refine leaves0 ha.defers ?_ (h w hw)
  simp [results, hr, loadVar, Array.getD_eq_getD_getElem?, ha.ok _ _ h1, ha.ok _ _ h2, ha.ok _ _ h3]
theorem cell_at {w : World} {b o : Nat} {cs : List Value} {T : TypeId} {v : Value} (hb : w.heap[b]? = some (.cells cs.toArray T (0, 0))) (hv : cs[o]? = some v) : w.cell? ⟨b, o, none⟩ = some v ∧ w.frozen? ⟨b, o, none⟩ = false := by
  constructor
  · simp [World.cell?, hb, hv]
  · simp [World.frozen?, hb]
/-- A deferred call that turns the first item. -/
theorem WR.fn1 {fn : Func} {R : Ending → World → Prop} {l : List Deferred} {f : FuncId} {vs : List Value} (hf : bodied P f = true) (hc : ∀ w, Sat w0 M I ws (i :: ow) w → Holds [i] w → CallsDef P f vs.toArray w fun w' => Turns [i] [j] w w')
    (h : WR P fn R n l e (Sat w0 M I ws (j :: ow))) : WR P fn R n (⟨.fn (.func f) #[], vs.toArray⟩ :: l) e (Sat w0 M I ws (i :: ow)) :=
  WR.fn (SS := Sat w0 M I ws (j :: ow)) hf (fun w hw => CallsDIn.mono (hc w hw (Sat.holds (A := [i]) (ow := ow) hw)) (fun en u w' ⟨h1, h2, h3⟩ => ⟨h1, h2, Sat.turns (A := [i]) (A' := [j]) (ow := ow) hw h3⟩)) h
theorem set_same {l : List Value} {o : Nat} {v : Value} (h : l[o]? = some v) : l.set o v = l := by
  apply List.ext_getElem?
  intro q
  rw [List.getElem?_set]
  split
  · rename_i hq
    subst hq
    rw [h, if_pos (List.getElem?_eq_some_iff.1 h).1]
  · rfl
theorem Sat.turnedL {w w' ws : World} {A A' B : List Item} {I : Nat → Prop} (h : Sat w (DD A) I ws (A' ++ B) w') : Turns A A' w w' := Sat.turned (Sat.part (List.sublist_append_left _ _) h)
/-- Items picked by number, ahead of the rest. -/
theorem perm_pick {α : Type} {R : List α} (l : List α) (p : List Nat) (h : p.Perm (List.range p.length)) (hl : l.length = p.length) : (p.filterMap (fun i => l[i]?) ++ R).Perm (l ++ R) := by
  refine List.Perm.append_right R ?_
  rw [← hl] at h
  have h1 := h.filterMap (fun i => l[i]?)
  have h2 : (List.range l.length).filterMap (fun i => l[i]?) = l := by
    have e : (List.range l.length).map (fun i => l[i]?) = l.map some := by
      apply List.ext_getElem?
      intro i
      by_cases hi : i < l.length
      · simp [hi]
      · rw [List.getElem?_eq_none (by simp; omega), List.getElem?_eq_none (by simp; omega)]
    have := congrArg (List.filterMap id) e
    simpa [List.filterMap_map] using this
  rwa [h2] at h1
def cat {α : Type} : List (List α) → List α
  | [] => []
  | [a] => a
  | a :: b :: l => a ++ cat (b :: l)
theorem cat_flatten {α : Type} : ∀ L : List (List α), cat L = L.flatten
  | [] => rfl
  | [a] => by simp [cat]
  | a :: b :: l => by rw [cat, cat_flatten (b :: l)]; rfl
/-- Blocks picked by number. -/
theorem perm_cat {α : Type} (L : List (List α)) (p : List Nat) (h : p.Perm (List.range p.length)) (hl : L.length = p.length) : (cat (p.filterMap (fun i => L[i]?))).Perm (cat L) := by
  rw [cat_flatten, cat_flatten]
  have := perm_pick (R := []) L p h hl
  rw [List.append_nil, List.append_nil] at this
  exact this.flatten
theorem WX.focus {x : Exit} {ow' : List Item} (hp : ow'.Perm ow) (h : WX Q n ds e (Sat w0 M I ws ow') x) : WX Q n ds e (Sat w0 M I ws ow) x := WX.weak (fun _ hw => hw.perm hp) h
/-- Blocks picked by number; the others go. -/
theorem Sat.pick (L : List (List Item)) (p : List Nat) (k : Nat) (hl : L.length = k) (hnd : p.Nodup) (hlt : ∀ i ∈ p, i < k) (h : Sat w0 M I ws (cat L) w) : Sat w0 M I ws (cat (p.filterMap fun i => L[i]?)) w := by
  have hp : (p ++ (List.range k).filter fun i => !p.contains i).Perm (List.range k) := by
    rw [List.perm_ext_iff_of_nodup _ List.nodup_range]
    · intro i
      simp only [List.mem_append, List.mem_filter, List.mem_range, Bool.not_eq_true', List.contains_eq_mem, decide_eq_false_iff_not]
      constructor
      · rintro (hi | hi)
        · exact hlt i hi
        · exact hi.1
      · intro hi
        by_cases hip : i ∈ p
        · exact .inl hip
        · exact .inr ⟨hi, hip⟩
    · rw [List.nodup_append]
      refine ⟨hnd, List.Pairwise.filter _ List.nodup_range, fun a ha b hb e => ?_⟩
      subst e
      have := (List.mem_filter.1 hb).2
      simp [ha] at this
  have hlen : (p ++ (List.range k).filter fun i => !p.contains i).length = k := by rw [hp.length_eq, List.length_range]
  have h1 := perm_pick (R := []) L (p ++ (List.range k).filter fun i => !p.contains i) (by rw [hlen]; exact hp) (by rw [hlen]; exact hl)
  rw [List.append_nil, List.append_nil, List.filterMap_append] at h1
  have h2 := h1.flatten
  rw [List.flatten_append] at h2
  rw [cat_flatten] at h ⊢
  exact Sat.part (List.sublist_append_left _ _) (h.perm h2)
/-! ### Loops in which marks of ranges are left -/
theorem WC.loopM {ι : Type} {c : Code} (L : ι → List Deferred) (env : ι → Env) (R : ι → World → Prop) (μ : ι → Nat) (x0 : ι) (hL : ds = { ds with l := L x0 }) (hs : Sub (env x0) e) (h0 : ∀ w, S w → R x0 w)
    (round : ∀ x, WC P (Exit.then (fun a w => ∃ x', Fits n { ds with l := L x' } (env x') a ∧ R x' w ∧ μ x' < μ x) Q) n { ds with l := L x } (env x) (R x) c) : WC P Q n ds e S (.loop c) := by
  intro a w ha hw b k cs hro hb hr
  have key : ∀ m x a w, μ x = m → Fits n { ds with l := L x } (env x) a → R x w →
      ∃ e a' w', Q e a' w' ∧ ArrivesIn (Machine.fenced P (fen ds.r)) P (lone (b.atR a (.code c :: .inLoop c :: k)) cs w) b k cs e a' w' := by
    intro m
    induction m using Nat.strongRecOn with
    | _ m ih =>
      intro x a w hm ha hw
      obtain ⟨e, a₁, w₁, hq, harr⟩ := round x a w ha hw b (.inLoop c :: k) cs hro hb hr
      cases e with
      | normal =>
        obtain ⟨x', ha', hw', hlt⟩ := hq
        obtain ⟨e₂, a₂, w₂, hq₂, harr₂⟩ := ih (μ x') (hm ▸ hlt) x' a₁ w₁ rfl ha' hw'
        exact ⟨e₂, a₂, w₂, hq₂, .of_steps (StepsIn.trans harr (.one (fenced_calm (fr := b.atR a₁ (.inLoop c :: k)) hb hr rfl) stepR_inLoop)) harr₂⟩
      | exit id => exact ⟨_, a₁, w₁, hq, .pass (x := .inLoop c) rfl (fun _ _ => .inl (by simp)) harr⟩
      | goto l => exact ⟨_, a₁, w₁, hq, .pass (x := .inLoop c) rfl (fun _ _ => .inl (by simp)) harr⟩
      | ret => exact ⟨_, a₁, w₁, hq, .pass (x := .inLoop c) rfl (fun _ _ => .inl (by simp)) harr⟩
      | panic ch => exact ⟨_, a₁, w₁, hq, .pass (x := .inLoop c) rfl (fun _ _ => .inl (by simp)) harr⟩
      | outgrown => exact ⟨_, a₁, w₁, hq, .pass (x := .inLoop c) rfl (fun _ _ => .inl (by simp)) harr⟩
  obtain ⟨e, a', w', hq, harr⟩ := key _ x0 a w rfl (hL ▸ ha.sub hs) (h0 w hw)
  exact ⟨e, a', w', hq, .of_steps (.one (fenced_calm (fr := b.atR a (.code (.loop c) :: k)) hb hr rfl) stepR_loop) harr⟩
theorem WX.roundM {ι : Type} {ds' : DS} {L : ι → List Deferred} {env : ι → Env} {R : ι → World → Prop} {μ : ι → Nat} {m : Nat} (x' : ι) (hL : ds' = { ds with l := L x' }) (hs : Sub (env x') e) (hR : ∀ w, S w → R x' w) (hlt : μ x' < m) :
    WX (Exit.then (fun a w => ∃ x', Fits n { ds with l := L x' } (env x') a ∧ R x' w ∧ μ x' < m) Q) n ds' e S .normal := by
  subst hL
  exact fun _ w ha hw => ⟨x', ha.sub hs, hR w hw, hlt⟩
def mks (Ds : List Nat) : List Deferred := Ds.map fun D => ⟨.collected D, #[]⟩
def mkA (Ds : List Nat) : List Item := Ds.map fun D => own D (.deferred (some []))
theorem WR.marks {fn : Func} {R : Ending → World → Prop} (Ds : List Nat) (h : WR P fn R n [] e (Sat w0 M I ws ow)) : WR P fn R n (mks Ds) e (Sat w0 M I ws (mkA Ds ++ ow)) := by
  induction Ds with
  | nil => exact h
  | cons D Ds ih => exact WR.mark (ih.weak (fun _ hw => hw.drop))
/-- What was to be read is to be read still. -/
def Keeps (w w' : World) : Prop := ∀ q v, w.cell? q = some v → w'.cell? q = some v
theorem Keeps.refl (w : World) : Keeps w w := fun _ _ h => h
theorem Keeps.trans {a b c : World} (h : Keeps a b) (k : Keeps b c) : Keeps a c := fun q v hq => k q v (h q v hq)
theorem Keeps.fr0 {a b : World} (h : Fr0 a b) : Keeps a b := fun q v hq => by
  rw [World.cell?_of_block (h.keep _ (World.block_lt_of_cell? _ _ hq) (fun f => f.elim))]
  exact hq
theorem Sat.keeps (h : Sat w M (fun b => b < w.heap.size) w ow w') : Keeps w w' := fun q v hq => by
  rw [World.cell?_of_block ((h.snap _ (World.block_lt_of_cell? _ _ hq)).2)]
  exact hq
/-- In a round of a call that turns nothing of what was there. -/
theorem SatR.keeps {w W w' : World} {A0 r : List Item} (hS : Sat w (fun _ => False) (fun b => b < w.heap.size) w (A0 ++ r) W) (hW : SatR W A0 ow w') : Keeps w w' := fun q v hq => by
  have h1 := hS.keeps q v hq
  have hlt := World.block_lt_of_cell? _ _ hq
  rw [World.cell?_of_block (hW.fr.keep _ (World.block_lt_of_cell? _ _ h1) (fun hd => ?_))]
  · exact h1
  · obtain ⟨i, hi, hb⟩ := hd
    have := (hS.lt i (List.mem_append_left _ hi) _ hb).2.1
    exact this hlt
/-- An append behind which the old slice is still looked at: it shares the new one's block, or stays as it was. -/
theorem WL.appendK {T size bytes : Nat} {a1 a2 : Option Addr} {m1 c1 m2 c2 : Nat} {xs news : List Value} {q1 q2 : Operand} {t1 : TypeId}
    (hx : ev e q1 = some (.slice a1 m1 c1)) (hy : ev e q2 = some (.slice a2 m2 c2)) (hap : appB P t1 T size bytes = true) (hs : ∀ w, Sat w0 M I ws (row T size a1 m1 c1 xs :: ow) w → Src (Sat w0 M I ws (row T size a1 m1 c1 xs :: ow)) a2 m2 size news)
    (h1 : ∀ u ∈ news, u.oneCell' = true) (hb : (m1 + m2) * bytes ≤ 140737488355328 ∧ m1 + m2 ≤ maxLen) (hm : 0 < m2) (hk : Nat.blt k n = true)
    (h : ∀ (a' : Option Addr) (c' : Nat) (sh : Bool), (sh = true → a' = a1) → WL P ops Q n ds ((k, .slice a' (m1 + m2) c') :: e) (Sat w0 M I ws (row T size a' (m1 + m2) c' (xs ++ news) :: ((if sh then [] else [row T size a1 m1 c1 xs]) ++ ow))) rest) :
    WL P ops Q n ds e (Sat w0 M I ws (row T size a1 m1 c1 xs :: ow)) (⟨some k, .call ⟨.builtin .append, #[q1, q2], #[t1, t1]⟩, t, p, af, none⟩ :: rest) := by
  obtain ⟨hu, ti, z, hi, hz, hsz, hby, hzs, hpos⟩ := appB_spec hap
  refine WL.runX (ι := Option Addr × Nat × Bool) (vv := fun q => .slice q.1 (m1 + m2) q.2.1) (SS := fun q w => (q.2.2 = true → q.1 = a1) ∧ Sat w0 M I ws (row T size q.1 (m1 + m2) q.2.1 (xs ++ news) :: ((if q.2.2 then [] else [row T size a1 m1 c1 xs]) ++ ow)) w) ?_ hk (fun q => WL.pure (h q.1 q.2.1 q.2.2))
  intro a w ha hw
  have hS := hs w hw
  have hown : w.ownsRow 0 T size (.slice a1 m1 c1) m1 xs := hw.it _ (.head _)
  cases a2 with
  | none => have hm2 : m2 = 0 := hS.2.1 rfl; omega
  | some b2 =>
    have hnews : ∀ j u, news[j]? = some u → w.cell? (b2.add j) = some u := fun j u hj => hS.2.2 w hw b2 rfl j u hj
    obtain ⟨v', w', hrun, hown', hgr, _⟩ := run_append_own (P := P) w 0 t1 t T ti z size bytes hu hi hz hsz hby hzs hpos _ m1 xs hown b2 m2 c2 news hS.1 hnews h1 hb.2 hb.1 (Nat.zero_le _)
    have hv : ∃ a' c', v' = .slice a' (m1 + m2) c' := by
      rcases hown'.2 with ⟨hv, h0⟩ | ⟨g, c, cur, hv, _⟩
      · exact ⟨none, 0, by rw [hv, h0]⟩
      · exact ⟨_, _, hv⟩
    obtain ⟨a', c', rfl⟩ := hv
    have hres : (execOp a.eval ⟨some k, .call ⟨.builtin .append, #[q1, q2], #[t1, t1]⟩, t, p, af, none⟩).run P w = .ok (.value (.slice a' (m1 + m2) c')) w' := by
      simp [execOp, resolve, invoke, builtin, ha.eval hx, ha.eval hy, hrun]
    have hplace := append_place hu hi hz hsz hby hzs hpos hown hS.1 hnews h1 hb.2 hb.1 hrun
    have fresh : Fr0 w w' → (∀ q, (Value.slice a' (m1 + m2) c').ownBlock = some q → w.heap.size ≤ q) → Sat w0 M I ws (row T size a' (m1 + m2) c' (xs ++ news) :: ([row T size a1 m1 c1 xs] ++ ow)) w' := by
      intro hfr hnew
      refine hw.fresh hfr hown' ?_
      rintro b ⟨q, rfl, rfl⟩
      exact ⟨hnew q.block rfl, (hown'.lt q.block rfl).2⟩
    rcases hown.2 with ⟨hv, h0⟩ | ⟨g, c, cur, hv, _, hg, hmc, hcm, hcs, htake⟩
    · simp only [Value.slice.injEq] at hv
      obtain ⟨rfl, rfl, rfl⟩ := hv
      refine ⟨(a', c', false), w', hres, fun h => (by cases h), fresh (fr_of_grown hgr (fun b hb' => by simp [Value.ownBlock] at hb')) (fun q hq => ?_)⟩
      rcases hplace q hq with h | h
      · simp [Value.ownBlock] at h
      · exact h
    · simp only [Value.slice.injEq] at hv
      obtain ⟨rfl, _, rfl⟩ := hv
      subst hsz
      subst hby
      by_cases hroom : m1 + m2 ≤ c1
      · have hfit : m1 * ti.size + news.length ≤ cur.size := by rw [hS.1, hcs, ← Nat.add_mul]; exact Nat.mul_le_mul_right _ hroom
        have hr := run_append_room (P := P) w t1 t T ti hu hi g m1 c1 cur hg b2 m2 c2 news hS.1 hnews h1 hroom hfit
        rw [hrun] at hr
        simp only [Result.ok.injEq, Value.slice.injEq] at hr
        obtain ⟨⟨rfl, _, rfl⟩, _⟩ := hr
        refine ⟨(some ⟨g, 0, none⟩, c', true), w', hres, fun _ => rfl, ?_⟩
        refine hw.turn (fr_of_grown hgr ?_) hown' ?_
        · intro b hb'
          simp [Value.ownBlock] at hb'
          exact ⟨_, rfl, hb'⟩
        · rintro b ⟨q, hq, rfl⟩
          simp only [Option.some.injEq] at hq
          subst hq
          exact .inl ⟨_, rfl, rfl⟩
      · have holds : ∀ j u, xs[j]? = some u → w.cell? ((⟨g, 0, none⟩ : Addr).add j) = some u := hown.cells (g := g) rfl
        have hsmall : m1 + m2 ≤ 9223372036854775807 := by have := hb.2; simp only [maxLen] at this; omega
        have hr := run_append_grow (P := P) w t1 t T ti z hu hi hz ⟨g, 0, none⟩ m1 c1 xs hown.1 holds b2 m2 c2 news hS.1 hnews (by omega) (by omega) (growslice_fits (by omega) hb.1)
        rw [hrun] at hr
        simp only [Result.ok.injEq, Value.slice.injEq] at hr
        obtain ⟨⟨rfl, _, rfl⟩, hw'⟩ := hr
        refine ⟨(some ⟨w.heap.size, 0, none⟩, _, false), w', hres, fun h => (by cases h), fresh ?_ (fun q hq => ?_)⟩
        · rw [hw']
          exact (show Fr0 w w.drew from ⟨rfl, rfl, rfl, Nat.le_refl _, fun _ _ _ => rfl⟩).trans (Fr.alloc _ _)
        · simp only [Value.ownBlock, Option.some.injEq] at hq
          omega
end Go.Hw
