/- Contracts of functions of the program: what each returns and leaves in memory. Printed by gen.py and walk.py. -/
import Derived.Test.YtgiiifadbnpfkaaGreatDoorMg15
namespace Go.Proofs.YtgiiifadbnpfkaaGreatDoor
open Go Go.Hw
set_option linter.unusedSimpArgs false
set_option linter.unusedVariables false
/-! ### The base as it lies -/
structure BaseG where
  p : Nat
  nb : Option Nat
  va : Option Addr
  vc : Nat
  vs : List Tm
  rb : Nat
  rs : List (Pd × RelG)
def baseC (g : BaseG) : List Value := [.map g.nb, .slice g.va g.vs.length g.vc, .map (some g.rb)]
def numKV (vs : List Tm) : List (Tm × Value) := vs.zipIdx.map fun q => (q.1, .int .i64 (q.2 : Int))
def relKV (rs : List (Pd × RelG)) : List (Pd × Value) := rs.map fun q => (q.1, ptr q.2.r)
def nbA (g : BaseG) : List Hw.Item := match g.nb with | none => [] | some b => [own b (mapK tmV (numKV g.vs))]
abbrev hdB (g : BaseG) : Hw.Item := own g.p (.cells (baseC g).toArray 84 (0, 0))
abbrev rowT (a : Option Addr) (c : Nat) (ts : List Tm) : Hw.Item := row 31 3 a ts.length c (ts.flatMap tmC)
def tabA (g : BaseG) : List Hw.Item := hdB g :: rowT g.va g.vc g.vs :: nbA g
def relsA (rs : List (Pd × RelG)) : List Hw.Item := rs.flatMap fun q => relA q.2
abbrev rbA (g : BaseG) : Hw.Item := own g.rb (mapK pdV (relKV g.rs))
def baseA (g : BaseG) : List Hw.Item := tabA g ++ (rbA g :: relsA g.rs)
/-- The number of a value. -/
def numOf (vs : List Tm) (t : Tm) : Option Nat := vs.findIdx? fun u => decide (t = u)
theorem numKV_spot (t : Tm) : ∀ (vs : List Tm) (k i : Nat), spot (vs.zipIdx k |>.map fun q => (q.1, (Value.int .i64 (q.2 : Int)))) t i = (numOf vs t).map fun n => (i + n, .int .i64 ((k + n : Nat) : Int))
  | [], k, i => rfl
  | u :: vs, k, i => by
    rw [List.zipIdx_cons, List.map_cons, spot, numOf, List.findIdx?_cons]
    by_cases h : t = u
    · simp [h]
    · simp only [h, if_false, decide_false, Bool.false_eq_true]
      rw [numKV_spot t vs (k + 1) (i + 1), numOf]
      cases List.findIdx? (fun u => decide (t = u)) vs with
      | none => rfl
      | some n => simp only [Option.map_some, Option.some.injEq, Prod.mk.injEq, Value.int.injEq, true_and]; omega
theorem numKV_got (vs : List Tm) (t : Tm) : got (numKV vs) t = (numOf vs t).map fun n => .int .i64 (n : Int) := by
  rw [got, numKV, numKV_spot t vs 0 0]
  cases numOf vs t <;> simp
theorem numOf_some {vs : List Tm} {t : Tm} {n : Nat} (h : numOf vs t = some n) : vs[n]? = some t := by
  unfold numOf at h
  obtain ⟨hl, h1, _⟩ := List.findIdx?_eq_some_iff_getElem.1 h
  rw [List.getElem?_eq_getElem hl]
  simp only [decide_eq_true_eq] at h1
  rw [h1]
theorem numOf_none {vs : List Tm} {t : Tm} : numOf vs t = none ↔ t ∉ vs := by
  unfold numOf
  rw [List.findIdx?_eq_none_iff]
  constructor
  · intro h hm
    have := h t hm
    simp at this
  · intro h u hu
    simp only [decide_eq_false_iff_not]
    intro e
    exact h (e ▸ hu)
theorem numOf_nodup {vs : List Tm} (hn : vs.Nodup) {t : Tm} {n : Nat} (h : vs[n]? = some t) : numOf vs t = some n := by
  cases hc : numOf vs t with
  | none => exact absurd (List.mem_of_getElem? h) (numOf_none.1 hc)
  | some m =>
    have h2 := numOf_some hc
    rw [(List.getElem?_inj (List.getElem?_eq_some_iff.1 h).1 hn).1 (h.trans h2.symm)]
theorem numOf_lt {vs : List Tm} {t : Tm} {n : Nat} (h : numOf vs t = some n) : n < vs.length := (List.getElem?_eq_some_iff.1 (numOf_some h)).1
structure BaseOK (g : BaseG) : Prop where
  nb : g.nb = none → g.vs = []
  vn : g.vs.Nodup
  rn : (g.rs.map (·.1)).Nodup
  ok : ∀ x ∈ g.rs, RelOK x.2
  wd : ∀ x ∈ g.rs, x.2.width = x.1.ar + 1
  ar : ∀ x ∈ g.rs, x.1.ar ≤ 8
  inr : ∀ x ∈ g.rs, ∀ r ∈ (rp x.2).map (·.1), ∀ k : Int, k ∈ r → 0 ≤ k ∧ k < (g.vs.length : Int)
  vl : g.vs.length ≤ 1099511627776
  rl : g.rs.length ≤ 1099511627776
  fl : (g.rs.map fun x => x.2.es.length).sum ≤ 1099511627776
/-- A map that may be none yet. -/
theorem OV.lookupNum {n : Nat} {ds : DS} {e : Env} {S : World → Prop} {dst : Option Tmp} {t : TypeId} {p : String} {af : Array Edge} {g : Option (Nat × Bool)} {x y : Operand} {nb : Option Nat} {vs : List Tm} {u : Tm} (hx : ev e x = some (.map nb)) (hy : ev e y = some (tmV u)) (h0 : nb = none → vs = []) (hc : ∀ w, S w → ∀ b, nb = some b → w.heap[b]? = some (mapK tmV (numKV vs))) :
    OV Tryz.prog n ds e S ⟨dst, .lookup 79 x y true, t, p, af, g⟩ (.tuple #[.int .i64 (((numOf vs u).getD 0 : Nat) : Int), .bool (numOf vs u).isSome]) := by
  cases nb with
  | some b =>
    have h := OV.lookupOk (P := Tryz.prog) (n := n) (ds := ds) (e := e) (S := S) (dst := dst) (t := t) (p := p) (af := af) (g := g) (kv := numKV vs) tmKey T.u79 (show Program.zv Tryz.prog 3 = some (.int .i64 0) by kernel_rfl) hx hy (fun w hw => hc w hw b rfl)
    refine h.cast ?_
    rw [numKV_got]
    cases numOf vs u <;> rfl
  | none =>
    intro a w ha hw
    have e0 : (Instr.lookup 79 (.map none) (tmV u) true).run Tryz.prog w = .ok (.tuple #[.int .i64 0, .bool false]) w := by
      unfold Instr.lookup
      simp only [Sem.run_bind, run_underlying T.u79, Result.andThen_ok, Sem.run_pure, tm_check]
      have h1 := tmKey.find u [] w
      simp only [mapEs, List.zipIdx_nil, List.map_nil] at h1
      simp [h1, spot, run_zv (show Program.zv Tryz.prog 3 = some (.int .i64 0) by kernel_rfl)]
    have hv : vs = [] := h0 rfl
    subst hv
    simp [execOp, ha.eval hx, ha.eval hy, e0, numOf]

set_option maxRecDepth 10000 in
theorem bnew_calls (w : World) : Calls Tryz.prog 28 #[] w fun e w' => ∃ p rb, e = .returned (ptr p) ∧ Turns [] (baseA ⟨p, none, none, 0, [], rb, []⟩) w w' := by
  refine enterS (args := []) (fun _ => False) Tryz.func28 rfl Tryz.ntmps28 rfl rfl ?_
  refine WC.seq ?_
  refine WC.region ?_
  refine WL.val (OV.assign rfl) rfl ?_
  refine WL.nil ?_
  refine WX.next ?_
  refine WC.seq ?_
  refine WC.region ?_
  refine WL.makeMap (pdV) rfl ?_
  intro m1
  refine WL.val (OV.buildStruct (xs := [(1, .tmp 1)]) (pl := [(0, 2), (2, 1)]) (cs := [.map none, .slice none 0 0, .map (some m1)]) T.u84 T.zr84 (by kernel_rfl) rfl (fill_cons (us := [_]) rfl rfl (by first | decide | simp) rfl)) rfl ?_
  refine WL.box rfl rfl rfl ?_
  intro b3
  refine WL.val (OV.assign rfl) rfl ?_
  refine WL.nil ?_
  refine WX.next ?_
  refine WC.ret ?_
  refine WX.ret1 rfl rfl rfl (fun w' hw => ⟨b3, m1, rfl, ?_⟩)
  exact ((hw.rowNil 31 3).perm (perm_pick [_, _, _] [1, 0, 2] (by decide) rfl)).turned0

set_option maxRecDepth 10000 in
theorem pred_calls (x : At) (a : Option Addr) (c : Nat) (w : World) : Calls Tryz.prog 39 #[atV x a c] w fun e w' => e = .returned (pdV ⟨x.name, x.args.length⟩) ∧ Fr0 w w' := by
  refine enterS (args := [atV x a c]) (fun _ => False) Tryz.func39 rfl Tryz.ntmps39 rfl rfl ?_
  refine WC.seq ?_
  refine WC.region ?_
  refine WL.box rfl rfl rfl ?_
  intro b1
  refine WL.alloc T.zr43 rfl ?_
  intro b2
  refine WL.nil ?_
  refine WX.next ?_
  refine WC.seq ?_
  refine WC.region ?_
  first
  | (refine WL.val (OV.fieldAddr0 (off := 3) rfl T.u34 rfl) rfl ?_)
  | (refine WL.val (OV.fieldAddr (off := 3) rfl T.u34 rfl) rfl ?_)
  refine WL.val (OV.load1 (v := .string x.name) rfl T.u9 rfl (fun _ hw => (cell_at (hw.it _ (.tail _ (.head _))) (o := 3) rfl).1)) rfl ?_
  first
  | (refine WL.val (OV.fieldAddr0 (off := 4) rfl T.u34 rfl) rfl ?_)
  | (refine WL.val (OV.fieldAddr (off := 4) rfl T.u34 rfl) rfl ?_)
  refine WL.val (OV.load1 (v := .slice a x.args.length c) rfl T.u32 rfl (fun _ hw => (cell_at (hw.it _ (.tail _ (.head _))) (o := 4) rfl).1)) rfl ?_
  first
  | (refine WL.val (OV.lenSlice rfl T.u32) rfl ?_)
  | (refine WL.val (OV.lenStr rfl T.u32) rfl ?_)
  refine WL.val (OV.buildStruct (xs := [(0, .tmp 4), (1, .tmp 7)]) (pl := [(0, 1), (1, 1)]) (cs := pdC ⟨x.name, x.args.length⟩) T.u43 T.zr43 (by kernel_rfl) rfl (fill_cons (us := [_]) rfl rfl (by first | decide | simp) (fill_cons (us := [_]) rfl rfl (by first | decide | simp) rfl))) rfl ?_
  refine WL.storeAll (vs := pdC ⟨x.name, x.args.length⟩) rfl rfl rfl T.z43 rfl ?_
  refine WL.nil ?_
  refine WX.next ?_
  refine WC.ret ?_
  exact WX.retC (cs := pdC ⟨x.name, x.args.length⟩) rfl rfl rfl T.u43 rfl T.z43 (fun w' hw j v hj => own_cells hw (.head _) j v hj) (fun w' hw => ⟨rfl, hw.fr⟩)

theorem nb_get {w0 ws w : World} {M I : Nat → Prop} {ow : List Hw.Item} {g : BaseG} (h : Sat w0 M I ws ow w) (hm : ∀ i ∈ nbA g, i ∈ ow) : ∀ b, g.nb = some b → w.heap[b]? = some (mapK tmV (numKV g.vs)) := by
  intro b hb
  exact h.it (own b (mapK tmV (numKV g.vs))) (hm _ (by rw [nbA, hb]; exact .head _))
theorem nb_holds {w : World} {g : BaseG} (h : Holds (tabA g) w) : ∀ b, g.nb = some b → w.heap[b]? = some (mapK tmV (numKV g.vs)) := by
  intro b hb
  exact h.φ (own b (mapK tmV (numKV g.vs))) (.tail _ (.tail _ (by rw [nbA, hb]; exact .head _)))

set_option maxRecDepth 10000 in
theorem known_calls (g : BaseG) (ok : BaseOK g) (t : Tm) (w : World) (hA : Holds (tabA g) w) : Calls Tryz.prog 71 #[ptr g.p, tmV t] w fun e w' => e = .returned (.tuple #[.int .i64 (((numOf g.vs t).getD 0 : Nat) : Int), .bool (numOf g.vs t).isSome]) ∧ Fr0 w w' := by
  refine enterS (args := [ptr g.p, tmV t]) (fun _ => False) Tryz.func71 rfl Tryz.ntmps71 rfl rfl ?_
  refine WC.seq ?_
  refine WC.region ?_
  refine WL.box rfl rfl rfl ?_
  intro b3
  refine WL.val (OV.assign rfl) rfl ?_
  refine WL.val (OV.assign rfl) rfl ?_
  refine WL.nil ?_
  refine WX.next ?_
  refine WC.seq ?_
  refine WC.quietS (by kernel_rfl) (by kernel_rfl) (m := 11) rfl ?_
  refine WH.free 0 rfl (by kernel_rfl) (by kernel_rfl) (by kernel_rfl) rfl (fun _ => (fun _ h => h)) (OV.move rfl) rfl (listed' := [true, false, false, false, false, false, false, false, false, false, false]) rfl ?_
  refine WH.free 1 rfl (by kernel_rfl) (by kernel_rfl) (by kernel_rfl) rfl (fun _ => (fun _ h => h)) (OV.nilCheck rfl) rfl (listed' := [true, true, false, false, false, false, false, false, false, false, false]) rfl ?_
  first
  | (refine WH.free 2 rfl (by kernel_rfl) (by kernel_rfl) (by kernel_rfl) rfl (fun _ => (fun _ h => h)) (OV.fieldAddr0 (off := 0) rfl T.u81 rfl) rfl (listed' := [true, true, true, false, false, false, false, false, false, false, false]) rfl ?_)
  | (refine WH.free 2 rfl (by kernel_rfl) (by kernel_rfl) (by kernel_rfl) rfl (fun _ => (fun _ h => h)) (OV.fieldAddr (off := 0) rfl T.u81 rfl) rfl (listed' := [true, true, true, false, false, false, false, false, false, false, false]) rfl ?_)
  refine WH.take 3 rfl (by kernel_rfl) (by kernel_rfl) (by kernel_rfl) (by kernel_rfl) (fun _ h => h) (OV.load1 (v := .map g.nb) rfl T.u79 rfl (fun _ hw => hw.keeps _ _ (cell_at (hA.φ _ (.head _)) (o := 0) rfl).1)) rfl (listed' := [true, true, true, true, false, false, false, false, false, false, false]) rfl ?_
  refine WH.take 4 rfl (by kernel_rfl) (by kernel_rfl) (by kernel_rfl) (by kernel_rfl) (fun _ h => h) (OV.loadN (cs := tmC t) rfl T.u31 rfl T.z31 (fun _ hw j v hj => by rw [add_off, Nat.zero_add]; exact own_cells hw (.head _) j v hj)) rfl (listed' := [true, true, true, true, true, false, false, false, false, false, false]) rfl ?_
  refine WH.take 5 rfl (by kernel_rfl) (by kernel_rfl) (by kernel_rfl) (by kernel_rfl) (fun _ h => h) (OV.lookupNum rfl rfl ok.nb (fun _ hw b hb => (hw.snap b (Array.getElem?_eq_some_iff.1 (nb_holds hA b hb)).1).2.trans (nb_holds hA b hb))) rfl (listed' := [true, true, true, true, true, true, false, false, false, false, false]) rfl ?_
  refine WH.free 6 rfl (by kernel_rfl) (by kernel_rfl) (by kernel_rfl) rfl (fun _ => (fun _ h => h)) (OV.move rfl) rfl (listed' := [true, true, true, true, true, true, true, false, false, false, false]) rfl ?_
  refine WH.free 7 rfl (by kernel_rfl) (by kernel_rfl) (by kernel_rfl) rfl (fun _ => (fun _ h => h)) (OV.extract rfl rfl) rfl (listed' := [true, true, true, true, true, true, true, true, false, false, false]) rfl ?_
  refine WH.free 8 rfl (by kernel_rfl) (by kernel_rfl) (by kernel_rfl) rfl (fun _ => (fun _ h => h)) (OV.extract rfl rfl) rfl (listed' := [true, true, true, true, true, true, true, true, true, false, false]) rfl ?_
  refine WH.free 9 rfl (by kernel_rfl) (by kernel_rfl) (by kernel_rfl) rfl (fun _ => (fun _ h => h)) (OV.assign rfl) rfl (listed' := [true, true, true, true, true, true, true, true, true, true, false]) rfl ?_
  refine WH.free 10 rfl (by kernel_rfl) (by kernel_rfl) (by kernel_rfl) rfl (fun _ => (fun _ h => h)) (OV.assign rfl) rfl (listed' := [true, true, true, true, true, true, true, true, true, true, true]) rfl ?_
  refine WH.done (by kernel_rfl) ?_
  refine WX.next ?_
  refine WC.seq ?_
  refine WC.region ?_
  refine WL.val (OV.move rfl) rfl ?_
  refine WL.val (OV.move rfl) rfl ?_
  refine WL.val (OV.assign rfl) rfl ?_
  refine WL.val (OV.assign rfl) rfl ?_
  refine WL.nil ?_
  refine WX.next ?_
  refine WC.ret ?_
  exact WX.ret2 rfl rfl rfl rfl (fun w' hw => ⟨rfl, hw.fr⟩)

set_option maxRecDepth 10000 in
theorem value_calls (g : BaseG) (ok : BaseOK g) (i : Nat) (t : Tm) (ht : g.vs[i]? = some t) (w : World) (hA : Holds (tabA g) w) : Calls Tryz.prog 66 #[ptr g.p, .int .i64 (i : Int)] w fun e w' => e = .returned (tmV t) ∧ Fr0 w w' := by
  refine enterS (args := [ptr g.p, .int .i64 (i : Int)]) (fun _ => False) Tryz.func66 rfl Tryz.ntmps66 rfl rfl ?_
  refine WC.seq ?_
  refine WC.region ?_
  refine WL.alloc T.zr31 rfl ?_
  intro b4
  refine WL.nil ?_
  refine WX.next ?_
  refine WC.seq ?_
  refine WC.region ?_
  refine WL.val (OV.move rfl) rfl ?_
  refine WL.val (OV.nilCheck rfl) rfl ?_
  first
  | (refine WL.val (OV.fieldAddr0 (off := 1) rfl T.u81 rfl) rfl ?_)
  | (refine WL.val (OV.fieldAddr (off := 1) rfl T.u81 rfl) rfl ?_)
  refine WL.val (OV.load1 (v := .slice g.va g.vs.length g.vc) rfl T.u32 rfl (fun _ hw => hw.keeps _ _ (cell_at (hA.φ _ (.head _)) (o := 1) rfl).1)) rfl ?_
  refine WL.val (OV.move rfl) rfl ?_
  have hil := (List.getElem?_eq_some_iff.1 ht).1
  have hS : Sat w (DD (tabA g)) (fun b => b < w.heap.size ∧ ¬ DD (tabA g) b) w (tabA g) w := Sat.startA hA
  obtain ⟨q1, t1, hq1, ht1, _, _, hcell⟩ := (RT.of_row (c := g.vc) rfl hS (.tail _ (.head _))).get hil
  obtain rfl : t1 = t := Option.some.inj (ht1.symm.trans ht)
  refine WL.val ((OV.indexSlice (a := q1) (show _ = some (Value.slice (some q1) g.vs.length g.vc) by rw [← hq1]; rfl) rfl T.u32 T.z31 (by omega)).cast (u := .pointer (some (q1.add (i * 3)))) (by rw [Int.toNat_natCast])) rfl ?_
  refine WL.val (OV.loadN (cs := tmC t1) rfl T.u31 rfl T.z31 (fun _ hw j v hj => hw.keeps _ _ (hcell j v hj))) rfl ?_
  refine WL.storeAll (vs := tmC t1) rfl rfl rfl T.z31 rfl ?_
  refine WL.nil ?_
  refine WX.next ?_
  refine WC.ret ?_
  exact WX.retC (cs := tmC t1) rfl rfl rfl T.u31 rfl T.z31 (fun w' hw j v hj => own_cells hw (.head _) j v hj) (fun w' hw => ⟨rfl, hw.fr⟩)

end Go.Proofs.YtgiiifadbnpfkaaGreatDoor

namespace Go.Proofs.YtgiiifadbnpfkaaGreatDoor
open Go Go.Hw
set_option linter.unusedSimpArgs false
set_option linter.unusedVariables false
theorem _root_.Go.Hw.Sat.asRow {w0 ws w : World} {M I : Nat → Prop} {ow : List Hw.Item} {b : Nat} {cs : List Value} {T : TypeId} {k m : Nat} (h : Sat w0 M I ws (own b (.cells cs.toArray T (0, 0)) :: ow) w) (hl : cs.length = m * k) (hm : m ≤ maxLen) : Sat w0 M I ws (row T k (some ⟨b, 0, none⟩) m m cs :: ow) w := by
  refine h.turn (Fr.refl _ w) ?_ ?_
  · refine ⟨hl, .inr ⟨b, m, cs.toArray, rfl, Nat.zero_le _, h.it _ (.head _), Nat.le_refl _, hm, by simp [hl], ?_⟩⟩
    show cs.toArray.toList.take (m * k) = cs
    rw [List.toList_toArray, ← hl, List.take_length]
  · rintro i ⟨q, hq, rfl⟩
    simp only [Option.some.injEq] at hq
    subst hq
    exact .inl rfl
theorem tabA_some {g : BaseG} {b : Nat} (h : g.nb = some b) : tabA g = [own g.p (.cells [.map (some b), .slice g.va g.vs.length g.vc, .map (some g.rb)].toArray 84 (0, 0)), rowT g.va g.vc g.vs, own b (mapK tmV (numKV g.vs))] := by
  simp [tabA, hdB, baseC, nbA, h]
theorem _root_.Go.Hw.OV.eqlMN {P : Program} {n : Nat} {ds : DS} {e : Env} {S : World → Prop} {dst : Option Tmp} {t xt yt : TypeId} {p : String} {af : Array Edge} {g : Option (Nat × Bool)} {x y : Operand} {m : Option Nat} {kt el : TypeId} (hu : P.underlying xt = some (.map kt el)) (hx : ev e x = some (.map m)) (hy : ev e y = some (.map none)) : OV P n ds e S ⟨dst, .binOp .eql xt x y yt, t, p, af, g⟩ (.bool m.isNone) := fun _ w ha _ => by
  have h := run_equalIn_map_nil w 9999 xt kt el m hu
  have hg : (eqGuard .eql xt x y (.map m) (.map none)).run P w = .ok () w := by
    simp [eqGuard, run_program]
  simp [execOp, ha.eval hx, ha.eval hy, hg, binOp, Op.equal, Op.maxDepth, h]
/-- The values once the value has a number. -/
def numX (vs : List Tm) (t : Tm) : List Tm := if t ∈ vs then vs else vs ++ [t]
theorem numX_of {vs : List Tm} {t : Tm} (h : t ∉ vs) : numX vs t = vs ++ [t] := if_neg h
theorem numX_old {vs : List Tm} {t : Tm} (h : t ∈ vs) : numX vs t = vs := if_pos h
theorem numX_nodup {vs : List Tm} {t : Tm} (h : vs.Nodup) : (numX vs t).Nodup := by
  by_cases ht : t ∈ vs
  · rw [numX_old ht]; exact h
  · rw [numX_of ht, List.nodup_append]
    exact ⟨h, by simp, fun a ha b hb => by simp only [List.mem_singleton] at hb; subst hb; exact fun e => ht (e ▸ ha)⟩
theorem numX_len (vs : List Tm) (t : Tm) : (numX vs t).length ≤ vs.length + 1 := by unfold numX; split <;> simp
theorem numX_pre (vs : List Tm) (t : Tm) : vs <+: numX vs t := by unfold numX; split <;> simp
theorem numX_num {vs : List Tm} (hn : vs.Nodup) {t : Tm} (h : t ∉ vs) : numOf (vs ++ [t]) t = some vs.length := numOf_nodup (numX_of h ▸ numX_nodup hn) (by simp)
theorem numKV_snoc {vs : List Tm} {t : Tm} (h : t ∉ vs) : ups (numKV vs) t (.int .i64 (vs.length : Int)) = numKV (vs ++ [t]) := by
  rw [ups_new]
  · simp [numKV, List.zipIdx_append]
  · intro q hq e
    obtain ⟨z, hz, rfl⟩ := List.mem_map.1 hq
    exact h (e ▸ (List.mem_zipIdx' hz).2 ▸ List.getElem_mem _)
theorem T.apT : appB Tryz.prog 32 31 3 32 = true := by kernel_rfl

set_option maxRecDepth 10000 in
set_option maxHeartbeats 1000000 in
theorem number_calls (g : BaseG) (h0 : g.nb = none → g.vs = []) (hn : g.vs.Nodup) (hl : g.vs.length ≤ 1099511627776) (t : Tm) (w : World) (hA : Holds (tabA g) w) : Calls Tryz.prog 57 #[ptr g.p, tmV t] w fun e w' => ∃ i nb va vc, e = .returned (.int .i64 ((i : Nat) : Int)) ∧ numOf (numX g.vs t) t = some i ∧ (nb = none → numX g.vs t = []) ∧ Turns (tabA g) (tabA { g with nb := nb, va := va, vc := vc, vs := numX g.vs t }) w w' := by
  refine enterA hA (args := [ptr g.p, tmV t]) Tryz.func57 rfl Tryz.ntmps57 rfl rfl ?_
  refine WC.seq ?_
  refine WC.region ?_
  refine WL.box rfl rfl rfl ?_
  intro b3
  refine WL.val (OV.assign rfl) rfl ?_
  refine WL.nil ?_
  refine WX.next ?_
  refine WC.seq ?_
  refine WC.quietS (by kernel_rfl) (by kernel_rfl) (m := 11) rfl ?_
  refine WH.free 0 rfl (by kernel_rfl) (by kernel_rfl) (by kernel_rfl) rfl (fun _ => (fun _ h => h)) (OV.move rfl) rfl (listed' := [true, false, false, false, false, false, false, false, false, false, false]) rfl ?_
  refine WH.free 1 rfl (by kernel_rfl) (by kernel_rfl) (by kernel_rfl) rfl (fun _ => (fun _ h => h)) (OV.nilCheck rfl) rfl (listed' := [true, true, false, false, false, false, false, false, false, false, false]) rfl ?_
  first
  | (refine WH.free 2 rfl (by kernel_rfl) (by kernel_rfl) (by kernel_rfl) rfl (fun _ => (fun _ h => h)) (OV.fieldAddr0 (off := 0) rfl T.u81 rfl) rfl (listed' := [true, true, true, false, false, false, false, false, false, false, false]) rfl ?_)
  | (refine WH.free 2 rfl (by kernel_rfl) (by kernel_rfl) (by kernel_rfl) rfl (fun _ => (fun _ h => h)) (OV.fieldAddr (off := 0) rfl T.u81 rfl) rfl (listed' := [true, true, true, false, false, false, false, false, false, false, false]) rfl ?_)
  refine WH.take 3 rfl (by kernel_rfl) (by kernel_rfl) (by kernel_rfl) (by kernel_rfl) (fun _ h => h) (OV.load1 (v := .map g.nb) rfl T.u79 rfl (fun _ hw => (cell_at (hw.it (hdB g) (.tail _ (.head _))) (o := 0) rfl).1)) rfl (listed' := [true, true, true, true, false, false, false, false, false, false, false]) rfl ?_
  refine WH.take 4 rfl (by kernel_rfl) (by kernel_rfl) (by kernel_rfl) (by kernel_rfl) (fun _ h => h) (OV.loadN (cs := tmC t) rfl T.u31 rfl T.z31 (fun _ hw j v hj => by rw [add_off, Nat.zero_add]; exact own_cells hw (.head _) j v hj)) rfl (listed' := [true, true, true, true, true, false, false, false, false, false, false]) rfl ?_
  refine WH.take 5 rfl (by kernel_rfl) (by kernel_rfl) (by kernel_rfl) (by kernel_rfl) (fun _ h => h) (OV.lookupNum rfl rfl h0 (fun _ hw => nb_get hw (fun i hi => .tail _ (.tail _ (.tail _ hi))))) rfl (listed' := [true, true, true, true, true, true, false, false, false, false, false]) rfl ?_
  refine WH.free 6 rfl (by kernel_rfl) (by kernel_rfl) (by kernel_rfl) rfl (fun _ => (fun _ h => h)) (OV.move rfl) rfl (listed' := [true, true, true, true, true, true, true, false, false, false, false]) rfl ?_
  refine WH.free 7 rfl (by kernel_rfl) (by kernel_rfl) (by kernel_rfl) rfl (fun _ => (fun _ h => h)) (OV.extract rfl rfl) rfl (listed' := [true, true, true, true, true, true, true, true, false, false, false]) rfl ?_
  refine WH.free 8 rfl (by kernel_rfl) (by kernel_rfl) (by kernel_rfl) rfl (fun _ => (fun _ h => h)) (OV.extract rfl rfl) rfl (listed' := [true, true, true, true, true, true, true, true, true, false, false]) rfl ?_
  refine WH.free 9 rfl (by kernel_rfl) (by kernel_rfl) (by kernel_rfl) rfl (fun _ => (fun _ h => h)) (OV.assign rfl) rfl (listed' := [true, true, true, true, true, true, true, true, true, true, false]) rfl ?_
  refine WH.free 10 rfl (by kernel_rfl) (by kernel_rfl) (by kernel_rfl) rfl (fun _ => (fun _ h => h)) (OV.assign rfl) rfl (listed' := [true, true, true, true, true, true, true, true, true, true, true]) rfl ?_
  refine WH.done (by kernel_rfl) ?_
  refine WX.next ?_
  refine WC.seq ?_
  refine WC.seq ?_
  refine WC.region ?_
  refine WL.val (OV.move rfl) rfl ?_
  refine WL.val (OV.not rfl) rfl ?_
  refine WL.nil ?_
  refine WX.next ?_
  refine WC.cond rfl (fun c17 => ?_) (fun c17 => ?_)
  · try simp only [decide_eq_true_eq, decide_eq_false_iff_not, Bool.not_eq_true', Bool.not_eq_false'] at c17
    refine WC.seq ?_
    refine WC.seq ?_
    refine WC.region ?_
    refine WL.val (OV.move rfl) rfl ?_
    refine WL.val (OV.nilCheck rfl) rfl ?_
    first
    | (refine WL.val (OV.fieldAddr0 (off := 0) rfl T.u81 rfl) rfl ?_)
    | (refine WL.val (OV.fieldAddr (off := 0) rfl T.u81 rfl) rfl ?_)
    refine WL.val (OV.load1 (v := .map g.nb) rfl T.u79 rfl (fun _ hw => (cell_at (hw.it (hdB g) (.tail _ (.head _))) (o := 0) rfl).1)) rfl ?_
    refine WL.val (OV.eqlMN T.u79 rfl rfl) rfl ?_
    refine WL.nil ?_
    refine WX.next ?_
    refine WC.cond rfl (fun c22 => ?_) (fun c22 => ?_)
    · try simp only [decide_eq_true_eq, decide_eq_false_iff_not, Bool.not_eq_true', Bool.not_eq_false'] at c22
      refine WC.region ?_
      refine WL.val (OV.move rfl) rfl ?_
      refine WL.makeMap (tmV) rfl ?_
      intro m24
      refine WL.val (OV.nilCheck rfl) rfl ?_
      first
      | (refine WL.val (OV.fieldAddr0 (off := 0) rfl T.u81 rfl) rfl ?_)
      | (refine WL.val (OV.fieldAddr (off := 0) rfl T.u81 rfl) rfl ?_)
      refine WL.focus perm2 (WL.store1 (o := 0) rfl rfl rfl T.z79 (by show 0 < 3; omega) ?_)
      refine WL.nil ?_
      refine WX.next ?_
      refine WC.seq ?_
      obtain ⟨nb, hnb24⟩ : ∃ nb, nb = m24 := ⟨_, rfl⟩
      subst hnb24
      have hnt : t ∉ g.vs := numOf_none.1 (by simpa using c17)
      have hv : g.vs = [] := h0 (by simpa using c22)
      refine WC.weak (S' := Sat w (DD (tabA g)) (fun b => b < w.heap.size ∧ ¬ DD (tabA g) b) w (own b3 (.cells (tmC t).toArray 31 (0, 0)) :: own g.p (.cells [.map (some nb), .slice g.va g.vs.length g.vc, .map (some g.rb)].toArray 84 (0, 0)) :: row 31 3 g.va g.vs.length g.vc (g.vs.flatMap tmC) :: own nb (mapK tmV (numKV g.vs)) :: [])) (fun w' hw => by
        rw [show numKV g.vs = [] by rw [hv]; rfl]
        exact hw.pick [[own g.p (.cells [.map (some nb), .slice g.va g.vs.length g.vc, .map (some g.rb)].toArray 84 (0, 0))], [own nb (mapK tmV [])], [own b3 (.cells (tmC t).toArray 31 (0, 0))], [rowT g.va g.vc g.vs], nbA g] [2, 0, 3, 1] 5 rfl (by decide) (by decide)) ?_
      refine WC.region ?_
      refine WL.val (OV.move rfl) rfl ?_
      refine WL.val (OV.nilCheck rfl) rfl ?_
      first
      | (refine WL.val (OV.fieldAddr0 (off := 1) rfl T.u81 rfl) rfl ?_)
      | (refine WL.val (OV.fieldAddr (off := 1) rfl T.u81 rfl) rfl ?_)
      refine WL.val (OV.load1 (v := .slice g.va g.vs.length g.vc) rfl T.u32 rfl (fun _ hw => (cell_at (hw.it _ (.tail _ (.head _))) (o := 1) rfl).1)) rfl ?_
      first
      | (refine WL.val (OV.lenSlice rfl T.u32) rfl ?_)
      | (refine WL.val (OV.lenStr rfl T.u32) rfl ?_)
      refine WL.val (OV.assign rfl) rfl ?_
      refine WL.nil ?_
      refine WX.next ?_
      refine WC.seq ?_
      refine WC.drawn (fun w' => w'.heap[g.p]? = some (.cells [.map (some nb), .slice g.va g.vs.length g.vc, .map (some g.rb)].toArray 84 (0, 0)) ∧ w'.heap[b3]? = some (.cells (tmC t).toArray 31 (0, 0))) [] (by kernel_rfl) (by kernel_rfl) (m := 7) rfl ?_
      refine WH.free 0 rfl (by kernel_rfl) (by kernel_rfl) (by kernel_rfl) rfl (fun _ => (fun _ hw => ⟨hw.it (own g.p _) (by simp), hw.it (own b3 _) (by simp)⟩)) (OV.move rfl) rfl (listed' := [true, false, false, false, false, false, false]) rfl ?_
      refine WH.free 1 rfl (by kernel_rfl) (by kernel_rfl) (by kernel_rfl) rfl (fun _ => (fun _ hw => ⟨hw.it (own g.p _) (by simp), hw.it (own b3 _) (by simp)⟩)) (OV.nilCheck rfl) rfl (listed' := [true, true, false, false, false, false, false]) rfl ?_
      first
      | (refine WH.free 2 rfl (by kernel_rfl) (by kernel_rfl) (by kernel_rfl) rfl (fun _ => (fun _ hw => ⟨hw.it (own g.p _) (by simp), hw.it (own b3 _) (by simp)⟩)) (OV.fieldAddr0 (off := 0) rfl T.u81 rfl) rfl (listed' := [true, true, true, false, false, false, false]) rfl ?_)
      | (refine WH.free 2 rfl (by kernel_rfl) (by kernel_rfl) (by kernel_rfl) rfl (fun _ => (fun _ hw => ⟨hw.it (own g.p _) (by simp), hw.it (own b3 _) (by simp)⟩)) (OV.fieldAddr (off := 0) rfl T.u81 rfl) rfl (listed' := [true, true, true, false, false, false, false]) rfl ?_)
      refine WH.take 3 rfl (by kernel_rfl) (by kernel_rfl) (by kernel_rfl) (by kernel_rfl) (fun _ hw => ⟨hw.it (own g.p _) (by simp), hw.it (own b3 _) (by simp)⟩) (OV.load1 (v := .map (some nb)) rfl T.u79 rfl (fun _ hw => (cell_at hw.1 (o := 0) rfl).1)) rfl (listed' := [true, true, true, true, false, false, false]) rfl ?_
      refine WH.take 4 rfl (by kernel_rfl) (by kernel_rfl) (by kernel_rfl) (by kernel_rfl) (fun _ hw => ⟨hw.it (own g.p _) (by simp), hw.it (own b3 _) (by simp)⟩) (OV.loadN (cs := tmC t) rfl T.u31 rfl T.z31 (fun _ hw j v hj => by rw [add_off]; exact heap_part hw.2 (o := 0) (cs' := tmC t) rfl j v hj)) rfl (listed' := [true, true, true, true, true, false, false]) rfl ?_
      refine WH.free 5 rfl (by kernel_rfl) (by kernel_rfl) (by kernel_rfl) rfl (fun _ => (fun _ hw => ⟨hw.it (own g.p _) (by simp), hw.it (own b3 _) (by simp)⟩)) (OV.move rfl) rfl (listed' := [true, true, true, true, true, true, false]) rfl ?_
      refine WH.only 6 rfl (by kernel_rfl) (listed' := [true, true, true, true, true, true, true]) rfl (fl' := false) rfl ?_
      refine WL.focus perm3 (WL.mapUpdate tmKey T.u79 rfl rfl rfl ?_)
      rw [numKV_snoc hnt]
      refine WL.nil ?_
      refine WX.contD (by kernel_rfl) (fun _ => (fun _ hw => ⟨hw.it (own g.p _) (by simp), hw.it (own b3 _) (by simp)⟩)) ?_
      refine WH.done (by kernel_rfl) ?_
      refine WX.next ?_
      refine WC.drawn (fun w' => w'.heap[g.p]? = some (.cells [.map (some nb), .slice g.va g.vs.length g.vc, .map (some g.rb)].toArray 84 (0, 0)) ∧ w'.heap[b3]? = some (.cells (tmC t).toArray 31 (0, 0))) [10] (by kernel_rfl) (by kernel_rfl) (m := 11) rfl ?_
      refine WH.free 0 rfl (by kernel_rfl) (by kernel_rfl) (by kernel_rfl) rfl (fun _ => (fun _ hw => ⟨hw.it (own g.p _) (by simp), hw.it (own b3 _) (by simp)⟩)) (OV.move rfl) rfl (listed' := [true, false, false, false, false, false, false, false, false, false, false]) rfl ?_
      refine WH.free 1 rfl (by kernel_rfl) (by kernel_rfl) (by kernel_rfl) rfl (fun _ => (fun _ hw => ⟨hw.it (own g.p _) (by simp), hw.it (own b3 _) (by simp)⟩)) (OV.move rfl) rfl (listed' := [true, true, false, false, false, false, false, false, false, false, false]) rfl ?_
      refine WH.free 2 rfl (by kernel_rfl) (by kernel_rfl) (by kernel_rfl) rfl (fun _ => (fun _ hw => ⟨hw.it (own g.p _) (by simp), hw.it (own b3 _) (by simp)⟩)) (OV.nilCheck rfl) rfl (listed' := [true, true, true, false, false, false, false, false, false, false, false]) rfl ?_
      first
      | (refine WH.free 3 rfl (by kernel_rfl) (by kernel_rfl) (by kernel_rfl) rfl (fun _ => (fun _ hw => ⟨hw.it (own g.p _) (by simp), hw.it (own b3 _) (by simp)⟩)) (OV.fieldAddr0 (off := 1) rfl T.u81 rfl) rfl (listed' := [true, true, true, true, false, false, false, false, false, false, false]) rfl ?_)
      | (refine WH.free 3 rfl (by kernel_rfl) (by kernel_rfl) (by kernel_rfl) rfl (fun _ => (fun _ hw => ⟨hw.it (own g.p _) (by simp), hw.it (own b3 _) (by simp)⟩)) (OV.fieldAddr (off := 1) rfl T.u81 rfl) rfl (listed' := [true, true, true, true, false, false, false, false, false, false, false]) rfl ?_)
      refine WH.take 4 rfl (by kernel_rfl) (by kernel_rfl) (by kernel_rfl) (by kernel_rfl) (fun _ hw => ⟨hw.it (own g.p _) (by simp), hw.it (own b3 _) (by simp)⟩) (OV.load1 (v := .slice g.va g.vs.length g.vc) rfl T.u32 rfl (fun _ hw => (cell_at hw.1 (o := 1) rfl).1)) rfl (listed' := [true, true, true, true, true, false, false, false, false, false, false]) rfl ?_
      refine WH.take 5 rfl (by kernel_rfl) (by kernel_rfl) (by kernel_rfl) (by kernel_rfl) (fun _ hw => ⟨hw.it (own g.p _) (by simp), hw.it (own b3 _) (by simp)⟩) (OV.loadN (cs := tmC t) rfl T.u31 rfl T.z31 (fun _ hw j v hj => by rw [add_off]; exact heap_part hw.2 (o := 0) (cs' := tmC t) rfl j v hj)) rfl (listed' := [true, true, true, true, true, true, false, false, false, false, false]) rfl ?_
      refine WH.only 6 rfl (by kernel_rfl) (listed' := [true, true, true, true, true, true, true, false, false, false, false]) rfl (fl' := false) rfl ?_
      refine WL.buildSliceA (cs := tmC t) T.u32 T.z31 T.zr31 rfl rfl (by omega) (by omega) rfl ?_
      intro b44
      refine WL.nil ?_
      refine WX.contD (by kernel_rfl) (fun _ => (fun _ hw => ⟨hw.it (own g.p _) (by simp), hw.it (own b3 _) (by simp)⟩)) ?_
      refine WH.only 7 rfl (by kernel_rfl) (listed' := [true, true, true, true, true, true, true, true, false, false, false]) rfl (fl' := false) rfl ?_
      refine WL.focus (ow' := row 31 3 g.va g.vs.length g.vc (g.vs.flatMap tmC) :: own b44 (.cells (tmC t).toArray 31 (0, 0)) :: own nb (mapK tmV (numKV (g.vs ++ [t]))) :: own g.p (.cells [.map (some nb), .slice g.va g.vs.length g.vc, .map (some g.rb)].toArray 84 (0, 0)) :: own b3 (.cells (tmC t).toArray 31 (0, 0)) :: []) (perm_pick [_, _, _, _, _] [4, 0, 1, 3, 2] (by decide) rfl) ?_
      refine WL.append (news := tmC t) rfl rfl T.apT (fun _ _ => own_srcN (.tail _ (.head _)) rfl) (tmC_one t) ⟨by omega, by unfold maxLen; omega⟩ rfl ?_
      intro a45 c45
      refine WL.nil ?_
      refine WX.contD (by kernel_rfl) (fun _ => (fun _ hw => ⟨hw.it (own g.p _) (by simp), hw.it (own b3 _) (by simp)⟩)) ?_
      refine WH.free 8 rfl (by kernel_rfl) (by kernel_rfl) (by kernel_rfl) rfl (fun _ => (fun _ hw => ⟨hw.it (own g.p _) (by simp), hw.it (own b3 _) (by simp)⟩)) (OV.nilCheck rfl) rfl (listed' := [true, true, true, true, true, true, true, true, true, false, false]) rfl ?_
      first
      | (refine WH.free 9 rfl (by kernel_rfl) (by kernel_rfl) (by kernel_rfl) rfl (fun _ => (fun _ hw => ⟨hw.it (own g.p _) (by simp), hw.it (own b3 _) (by simp)⟩)) (OV.fieldAddr0 (off := 1) rfl T.u81 rfl) rfl (listed' := [true, true, true, true, true, true, true, true, true, true, false]) rfl ?_)
      | (refine WH.free 9 rfl (by kernel_rfl) (by kernel_rfl) (by kernel_rfl) rfl (fun _ => (fun _ hw => ⟨hw.it (own g.p _) (by simp), hw.it (own b3 _) (by simp)⟩)) (OV.fieldAddr (off := 1) rfl T.u81 rfl) rfl (listed' := [true, true, true, true, true, true, true, true, true, true, false]) rfl ?_)
      refine WH.only 10 rfl (by kernel_rfl) (listed' := [true, true, true, true, true, true, true, true, true, true, true]) rfl (fl' := true) rfl ?_
      refine WL.focus perm3 (WL.store1 (o := 1) rfl rfl rfl T.z32 (by show 1 < 3; omega) ?_)
      refine WL.nil ?_
      refine WX.contD (by kernel_rfl) (fun h => by cases h) ?_
      refine WH.done (by kernel_rfl) ?_
      refine WX.next ?_
      refine WC.seq ?_
      refine WC.region ?_
      refine WL.val (OV.move rfl) rfl ?_
      refine WL.val (OV.assign rfl) rfl ?_
      refine WL.nil ?_
      refine WX.next ?_
      refine WC.ret ?_
      refine WX.ret1 rfl rfl rfl (fun w' hw => ⟨g.vs.length, some nb, a45, c45, rfl, ?_, fun h => (by cases h), ?_⟩)
      · rw [numX_of hnt]; exact numX_num hn hnt
      · have el : g.vs.length + 1 = (g.vs ++ [t]).length := by simp
        have ef : g.vs.flatMap tmC ++ tmC t = (g.vs ++ [t]).flatMap tmC := by simp
        rw [numX_of hnt, tabA_some (g := { g with nb := some nb, va := a45, vc := c45, vs := g.vs ++ [t] }) rfl]
        rw [el, ef] at hw
        exact Hw.Sat.turned (hw.pick [[own g.p (.cells [.map (some nb), .slice a45 (g.vs ++ [t]).length c45, .map (some g.rb)].toArray 84 (0, 0))], [rowT a45 c45 (g.vs ++ [t])], [own b44 (.cells (tmC t).toArray 31 (0, 0))], [own nb (mapK tmV (numKV (g.vs ++ [t])))], [own b3 (.cells (tmC t).toArray 31 (0, 0))]] [0, 1, 3] 5 rfl (by decide) (by decide))
    · try simp only [decide_eq_true_eq, decide_eq_false_iff_not, Bool.not_eq_true', Bool.not_eq_false'] at c22
      refine WC.skip ?_
      refine WX.next ?_
      refine WC.seq ?_
      have hnt : t ∉ g.vs := numOf_none.1 (by simpa using c17)
      obtain ⟨nb, hnb⟩ : ∃ nb, g.nb = some nb := by
        cases hq : g.nb with
        | none => rw [hq] at c22; simp at c22
        | some nb => exact ⟨nb, rfl⟩
      refine WC.weak (S' := Sat w (DD (tabA g)) (fun b => b < w.heap.size ∧ ¬ DD (tabA g) b) w (own b3 (.cells (tmC t).toArray 31 (0, 0)) :: own g.p (.cells [.map (some nb), .slice g.va g.vs.length g.vc, .map (some g.rb)].toArray 84 (0, 0)) :: row 31 3 g.va g.vs.length g.vc (g.vs.flatMap tmC) :: own nb (mapK tmV (numKV g.vs)) :: [])) (fun w' hw => hw.perm (List.Perm.of_eq (by rw [tabA_some hnb]))) ?_
      refine WC.region ?_
      refine WL.val (OV.move rfl) rfl ?_
      refine WL.val (OV.nilCheck rfl) rfl ?_
      first
      | (refine WL.val (OV.fieldAddr0 (off := 1) rfl T.u81 rfl) rfl ?_)
      | (refine WL.val (OV.fieldAddr (off := 1) rfl T.u81 rfl) rfl ?_)
      refine WL.val (OV.load1 (v := .slice g.va g.vs.length g.vc) rfl T.u32 rfl (fun _ hw => (cell_at (hw.it _ (.tail _ (.head _))) (o := 1) rfl).1)) rfl ?_
      first
      | (refine WL.val (OV.lenSlice rfl T.u32) rfl ?_)
      | (refine WL.val (OV.lenStr rfl T.u32) rfl ?_)
      refine WL.val (OV.assign rfl) rfl ?_
      refine WL.nil ?_
      refine WX.next ?_
      refine WC.seq ?_
      refine WC.drawn (fun w' => w'.heap[g.p]? = some (.cells [.map (some nb), .slice g.va g.vs.length g.vc, .map (some g.rb)].toArray 84 (0, 0)) ∧ w'.heap[b3]? = some (.cells (tmC t).toArray 31 (0, 0))) [] (by kernel_rfl) (by kernel_rfl) (m := 7) rfl ?_
      refine WH.free 0 rfl (by kernel_rfl) (by kernel_rfl) (by kernel_rfl) rfl (fun _ => (fun _ hw => ⟨hw.it (own g.p _) (by simp), hw.it (own b3 _) (by simp)⟩)) (OV.move rfl) rfl (listed' := [true, false, false, false, false, false, false]) rfl ?_
      refine WH.free 1 rfl (by kernel_rfl) (by kernel_rfl) (by kernel_rfl) rfl (fun _ => (fun _ hw => ⟨hw.it (own g.p _) (by simp), hw.it (own b3 _) (by simp)⟩)) (OV.nilCheck rfl) rfl (listed' := [true, true, false, false, false, false, false]) rfl ?_
      first
      | (refine WH.free 2 rfl (by kernel_rfl) (by kernel_rfl) (by kernel_rfl) rfl (fun _ => (fun _ hw => ⟨hw.it (own g.p _) (by simp), hw.it (own b3 _) (by simp)⟩)) (OV.fieldAddr0 (off := 0) rfl T.u81 rfl) rfl (listed' := [true, true, true, false, false, false, false]) rfl ?_)
      | (refine WH.free 2 rfl (by kernel_rfl) (by kernel_rfl) (by kernel_rfl) rfl (fun _ => (fun _ hw => ⟨hw.it (own g.p _) (by simp), hw.it (own b3 _) (by simp)⟩)) (OV.fieldAddr (off := 0) rfl T.u81 rfl) rfl (listed' := [true, true, true, false, false, false, false]) rfl ?_)
      refine WH.take 3 rfl (by kernel_rfl) (by kernel_rfl) (by kernel_rfl) (by kernel_rfl) (fun _ hw => ⟨hw.it (own g.p _) (by simp), hw.it (own b3 _) (by simp)⟩) (OV.load1 (v := .map (some nb)) rfl T.u79 rfl (fun _ hw => (cell_at hw.1 (o := 0) rfl).1)) rfl (listed' := [true, true, true, true, false, false, false]) rfl ?_
      refine WH.take 4 rfl (by kernel_rfl) (by kernel_rfl) (by kernel_rfl) (by kernel_rfl) (fun _ hw => ⟨hw.it (own g.p _) (by simp), hw.it (own b3 _) (by simp)⟩) (OV.loadN (cs := tmC t) rfl T.u31 rfl T.z31 (fun _ hw j v hj => by rw [add_off]; exact heap_part hw.2 (o := 0) (cs' := tmC t) rfl j v hj)) rfl (listed' := [true, true, true, true, true, false, false]) rfl ?_
      refine WH.free 5 rfl (by kernel_rfl) (by kernel_rfl) (by kernel_rfl) rfl (fun _ => (fun _ hw => ⟨hw.it (own g.p _) (by simp), hw.it (own b3 _) (by simp)⟩)) (OV.move rfl) rfl (listed' := [true, true, true, true, true, true, false]) rfl ?_
      refine WH.only 6 rfl (by kernel_rfl) (listed' := [true, true, true, true, true, true, true]) rfl (fl' := false) rfl ?_
      refine WL.focus perm3 (WL.mapUpdate tmKey T.u79 rfl rfl rfl ?_)
      rw [numKV_snoc hnt]
      refine WL.nil ?_
      refine WX.contD (by kernel_rfl) (fun _ => (fun _ hw => ⟨hw.it (own g.p _) (by simp), hw.it (own b3 _) (by simp)⟩)) ?_
      refine WH.done (by kernel_rfl) ?_
      refine WX.next ?_
      refine WC.drawn (fun w' => w'.heap[g.p]? = some (.cells [.map (some nb), .slice g.va g.vs.length g.vc, .map (some g.rb)].toArray 84 (0, 0)) ∧ w'.heap[b3]? = some (.cells (tmC t).toArray 31 (0, 0))) [10] (by kernel_rfl) (by kernel_rfl) (m := 11) rfl ?_
      refine WH.free 0 rfl (by kernel_rfl) (by kernel_rfl) (by kernel_rfl) rfl (fun _ => (fun _ hw => ⟨hw.it (own g.p _) (by simp), hw.it (own b3 _) (by simp)⟩)) (OV.move rfl) rfl (listed' := [true, false, false, false, false, false, false, false, false, false, false]) rfl ?_
      refine WH.free 1 rfl (by kernel_rfl) (by kernel_rfl) (by kernel_rfl) rfl (fun _ => (fun _ hw => ⟨hw.it (own g.p _) (by simp), hw.it (own b3 _) (by simp)⟩)) (OV.move rfl) rfl (listed' := [true, true, false, false, false, false, false, false, false, false, false]) rfl ?_
      refine WH.free 2 rfl (by kernel_rfl) (by kernel_rfl) (by kernel_rfl) rfl (fun _ => (fun _ hw => ⟨hw.it (own g.p _) (by simp), hw.it (own b3 _) (by simp)⟩)) (OV.nilCheck rfl) rfl (listed' := [true, true, true, false, false, false, false, false, false, false, false]) rfl ?_
      first
      | (refine WH.free 3 rfl (by kernel_rfl) (by kernel_rfl) (by kernel_rfl) rfl (fun _ => (fun _ hw => ⟨hw.it (own g.p _) (by simp), hw.it (own b3 _) (by simp)⟩)) (OV.fieldAddr0 (off := 1) rfl T.u81 rfl) rfl (listed' := [true, true, true, true, false, false, false, false, false, false, false]) rfl ?_)
      | (refine WH.free 3 rfl (by kernel_rfl) (by kernel_rfl) (by kernel_rfl) rfl (fun _ => (fun _ hw => ⟨hw.it (own g.p _) (by simp), hw.it (own b3 _) (by simp)⟩)) (OV.fieldAddr (off := 1) rfl T.u81 rfl) rfl (listed' := [true, true, true, true, false, false, false, false, false, false, false]) rfl ?_)
      refine WH.take 4 rfl (by kernel_rfl) (by kernel_rfl) (by kernel_rfl) (by kernel_rfl) (fun _ hw => ⟨hw.it (own g.p _) (by simp), hw.it (own b3 _) (by simp)⟩) (OV.load1 (v := .slice g.va g.vs.length g.vc) rfl T.u32 rfl (fun _ hw => (cell_at hw.1 (o := 1) rfl).1)) rfl (listed' := [true, true, true, true, true, false, false, false, false, false, false]) rfl ?_
      refine WH.take 5 rfl (by kernel_rfl) (by kernel_rfl) (by kernel_rfl) (by kernel_rfl) (fun _ hw => ⟨hw.it (own g.p _) (by simp), hw.it (own b3 _) (by simp)⟩) (OV.loadN (cs := tmC t) rfl T.u31 rfl T.z31 (fun _ hw j v hj => by rw [add_off]; exact heap_part hw.2 (o := 0) (cs' := tmC t) rfl j v hj)) rfl (listed' := [true, true, true, true, true, true, false, false, false, false, false]) rfl ?_
      refine WH.only 6 rfl (by kernel_rfl) (listed' := [true, true, true, true, true, true, true, false, false, false, false]) rfl (fl' := false) rfl ?_
      refine WL.buildSliceA (cs := tmC t) T.u32 T.z31 T.zr31 rfl rfl (by omega) (by omega) rfl ?_
      intro b44
      refine WL.nil ?_
      refine WX.contD (by kernel_rfl) (fun _ => (fun _ hw => ⟨hw.it (own g.p _) (by simp), hw.it (own b3 _) (by simp)⟩)) ?_
      refine WH.only 7 rfl (by kernel_rfl) (listed' := [true, true, true, true, true, true, true, true, false, false, false]) rfl (fl' := false) rfl ?_
      refine WL.focus (ow' := row 31 3 g.va g.vs.length g.vc (g.vs.flatMap tmC) :: own b44 (.cells (tmC t).toArray 31 (0, 0)) :: own nb (mapK tmV (numKV (g.vs ++ [t]))) :: own g.p (.cells [.map (some nb), .slice g.va g.vs.length g.vc, .map (some g.rb)].toArray 84 (0, 0)) :: own b3 (.cells (tmC t).toArray 31 (0, 0)) :: []) (perm_pick [_, _, _, _, _] [4, 0, 1, 3, 2] (by decide) rfl) ?_
      refine WL.append (news := tmC t) rfl rfl T.apT (fun _ _ => own_srcN (.tail _ (.head _)) rfl) (tmC_one t) ⟨by omega, by unfold maxLen; omega⟩ rfl ?_
      intro a45 c45
      refine WL.nil ?_
      refine WX.contD (by kernel_rfl) (fun _ => (fun _ hw => ⟨hw.it (own g.p _) (by simp), hw.it (own b3 _) (by simp)⟩)) ?_
      refine WH.free 8 rfl (by kernel_rfl) (by kernel_rfl) (by kernel_rfl) rfl (fun _ => (fun _ hw => ⟨hw.it (own g.p _) (by simp), hw.it (own b3 _) (by simp)⟩)) (OV.nilCheck rfl) rfl (listed' := [true, true, true, true, true, true, true, true, true, false, false]) rfl ?_
      first
      | (refine WH.free 9 rfl (by kernel_rfl) (by kernel_rfl) (by kernel_rfl) rfl (fun _ => (fun _ hw => ⟨hw.it (own g.p _) (by simp), hw.it (own b3 _) (by simp)⟩)) (OV.fieldAddr0 (off := 1) rfl T.u81 rfl) rfl (listed' := [true, true, true, true, true, true, true, true, true, true, false]) rfl ?_)
      | (refine WH.free 9 rfl (by kernel_rfl) (by kernel_rfl) (by kernel_rfl) rfl (fun _ => (fun _ hw => ⟨hw.it (own g.p _) (by simp), hw.it (own b3 _) (by simp)⟩)) (OV.fieldAddr (off := 1) rfl T.u81 rfl) rfl (listed' := [true, true, true, true, true, true, true, true, true, true, false]) rfl ?_)
      refine WH.only 10 rfl (by kernel_rfl) (listed' := [true, true, true, true, true, true, true, true, true, true, true]) rfl (fl' := true) rfl ?_
      refine WL.focus perm3 (WL.store1 (o := 1) rfl rfl rfl T.z32 (by show 1 < 3; omega) ?_)
      refine WL.nil ?_
      refine WX.contD (by kernel_rfl) (fun h => by cases h) ?_
      refine WH.done (by kernel_rfl) ?_
      refine WX.next ?_
      refine WC.seq ?_
      refine WC.region ?_
      refine WL.val (OV.move rfl) rfl ?_
      refine WL.val (OV.assign rfl) rfl ?_
      refine WL.nil ?_
      refine WX.next ?_
      refine WC.ret ?_
      refine WX.ret1 rfl rfl rfl (fun w' hw => ⟨g.vs.length, some nb, a45, c45, rfl, ?_, fun h => (by cases h), ?_⟩)
      · rw [numX_of hnt]; exact numX_num hn hnt
      · have el : g.vs.length + 1 = (g.vs ++ [t]).length := by simp
        have ef : g.vs.flatMap tmC ++ tmC t = (g.vs ++ [t]).flatMap tmC := by simp
        rw [numX_of hnt, tabA_some (g := { g with nb := some nb, va := a45, vc := c45, vs := g.vs ++ [t] }) rfl]
        rw [el, ef] at hw
        exact Hw.Sat.turned (hw.pick [[own g.p (.cells [.map (some nb), .slice a45 (g.vs ++ [t]).length c45, .map (some g.rb)].toArray 84 (0, 0))], [rowT a45 c45 (g.vs ++ [t])], [own b44 (.cells (tmC t).toArray 31 (0, 0))], [own nb (mapK tmV (numKV (g.vs ++ [t])))], [own b3 (.cells (tmC t).toArray 31 (0, 0))]] [0, 1, 3] 5 rfl (by decide) (by decide))
  · try simp only [decide_eq_true_eq, decide_eq_false_iff_not, Bool.not_eq_true', Bool.not_eq_false'] at c17
    refine WC.skip ?_
    refine WX.next ?_
    refine WC.seq ?_
    refine WC.region ?_
    refine WL.val (OV.move rfl) rfl ?_
    refine WL.val (OV.assign rfl) rfl ?_
    refine WL.nil ?_
    refine WX.next ?_
    refine WC.ret ?_
    obtain ⟨i, hi⟩ : ∃ i, numOf g.vs t = some i := by
      cases hq : numOf g.vs t with
      | none => rw [hq] at c17; simp at c17
      | some i => exact ⟨i, rfl⟩
    have ht : t ∈ g.vs := List.mem_of_getElem? (numOf_some hi)
    refine WX.ret1 rfl rfl rfl (fun w' hw => ⟨i, g.nb, g.va, g.vc, by rw [hi]; rfl, by rw [numX_old ht]; exact hi, by rw [numX_old ht]; exact h0, ?_⟩)
    rw [numX_old ht]
    exact hw.drop.turned

end Go.Proofs.YtgiiifadbnpfkaaGreatDoor

namespace Go.Proofs.YtgiiifadbnpfkaaGreatDoor
open Go Go.Hw
set_option linter.unusedSimpArgs false
set_option linter.unusedVariables false
theorem row_addrK {w : World} {T c m s : Nat} {a : Option Addr} {xs : List Value} (h : (row T s a m c xs).φ w) (hm : 0 < m) : ∃ b, a = some ⟨b, 0, none⟩ := by
  have h1 : w.ownsRow 0 T s (.slice a m c) m xs := h
  rcases h1.2 with ⟨hv, h0⟩ | ⟨g, cc, cur, hv, _⟩
  · omega
  · simp only [Value.slice.injEq] at hv; exact ⟨g, hv.1⟩
def rowOf (vs : List Tm) : List Tm → Option (List Int)
  | [] => some []
  | t :: ts => match numOf vs t, rowOf vs ts with
    | some n, some l => some (((n : Nat) : Int) :: l)
    | _, _ => none
theorem rowOf_cons {vs : List Tm} {t : Tm} {ts : List Tm} {l : List Int} : rowOf vs (t :: ts) = some l ↔ ∃ n m, numOf vs t = some n ∧ rowOf vs ts = some m ∧ l = ((n : Nat) : Int) :: m := by
  rw [rowOf]
  cases numOf vs t with
  | none => simp
  | some n =>
    cases rowOf vs ts with
    | none => simp
    | some m => simp [eq_comm]
theorem rowOf_snoc {vs : List Tm} {t : Tm} {n : Nat} (hn : numOf vs t = some n) : ∀ {ts : List Tm} {l : List Int}, rowOf vs ts = some l → rowOf vs (ts ++ [t]) = some (l ++ [((n : Nat) : Int)])
  | [], l, h => by simp [rowOf] at h; subst h; simp [rowOf, hn]
  | u :: ts, l, h => by
    obtain ⟨k, m, h1, h2, rfl⟩ := rowOf_cons.1 h
    rw [List.cons_append, rowOf, h1, rowOf_snoc hn h2]
    rfl
theorem rowOf_len {vs : List Tm} : ∀ {ts : List Tm} {l : List Int}, rowOf vs ts = some l → l.length = ts.length
  | [], l, h => by simp [rowOf] at h; simp [h]
  | t :: ts, l, h => by
    obtain ⟨k, m, h1, h2, rfl⟩ := rowOf_cons.1 h
    simp [rowOf_len h2]
def tsOf (x : At) : List Tm := x.b :: x.args

end Go.Proofs.YtgiiifadbnpfkaaGreatDoor

namespace Go.Proofs.YtgiiifadbnpfkaaGreatDoor
open Go Go.Hw
set_option linter.unusedSimpArgs false
set_option linter.unusedVariables false
def cut (a : Option Addr) (c k : Nat) : Option Addr := if c = k then a else a.map (·.add (k * 1))
theorem OV.sliceFrom {P : Program} {n : Nat} {ds : DS} {e : Env} {S : World → Prop} {dst : Option Tmp} {t lt : TypeId} {p : String} {af : Array Edge} {x : Operand} {g : Option (Nat × Bool)} {a : Option Addr} {m cp k : Nat} {el : TypeId} {lo : Operand} (hx : ev e x = some (.slice a m cp)) (hu : P.underlying lt = some (.slice el)) (hz : P.sz el = some 1) (hlo : ev e lo = some (.int .i64 (k : Int))) (h1 : k ≤ m ∧ m ≤ cp) :
    OV P n ds e S ⟨dst, .slice lt x (some lo) none none, t, p, af, g⟩ (.slice (cut a cp k) (m - k) (cp - k)) :=
  (OV.sliceSl (lo := some lo) (hi := none) (ml := some k) (mh := none) (l := k) (h := m) hx hu hz (by simp only [bnd, hlo]) rfl rfl rfl ⟨h1.1, h1.2⟩)

def valAt (vs : List Tm) (k : Int) : Tm := vs.getD k.toNat default
/-- The atom that a row says. -/
def atomOf (vs : List Tm) (p : Pd) (l : List Int) : At := ⟨valAt vs (l.getD 0 0), p.name, (l.drop 1).map (valAt vs)⟩
def inVs (vs : List Tm) (l : List Int) : Prop := ∀ k : Int, k ∈ l → 0 ≤ k ∧ k < (vs.length : Int)
theorem inVs_get {vs : List Tm} {l : List Int} (h : inVs vs l) {i : Nat} (hi : i < l.length) : ∃ n : Nat, l.getD i 0 = (n : Int) ∧ vs[n]? = some (valAt vs (l.getD i 0)) := by
  have hm : l.getD i 0 ∈ l := by rw [List.getD_eq_getElem?_getD, List.getElem?_eq_getElem hi]; exact List.getElem_mem hi
  generalize l.getD i 0 = k at hm
  obtain ⟨h1, h2⟩ := h _ hm
  refine ⟨k.toNat, by omega, ?_⟩
  unfold valAt
  rw [List.getD_eq_getElem?_getD, List.getElem?_eq_getElem (by omega)]
  rfl
theorem RI.cut1 {w : World} {a : Option Addr} {c : Nat} {l : List Int} (h : RI w a l.length l) (hc : l.length ≤ c) (h0 : 0 < l.length) : RI w (cut a c 1) (l.length - 1) (l.drop 1) := by
  refine ⟨by simp, fun ha => ?_, fun q hq j k hj => ?_⟩
  · unfold cut at ha
    split at ha
    · omega
    · cases a with
      | none => have := h.2.1 rfl; omega
      | some q => cases ha
  · have hjl : j < l.length - 1 := by have := (List.getElem?_eq_some_iff.1 hj).1; simpa using this
    unfold cut at hq
    split at hq
    · omega
    · cases a with
      | none => cases hq
      | some q0 =>
        simp only [Option.map_some, Option.some.injEq] at hq
        subst hq
        have h1 := h.2.2 q0 rfl (1 + j) k (by rw [List.getElem?_drop] at hj; exact hj)
        rw [add_add] at h1
        exact h1

set_option maxRecDepth 10000 in
set_option maxHeartbeats 1000000 in
theorem bfact_calls (g : BaseG) (ok : BaseOK g) (p : Pd) (l : List Int) (a : Option Addr) (c : Nat) (hl : l.length ≤ 1099511627776) (h0 : 0 < l.length) (hc : l.length ≤ c) (hin : inVs g.vs l) (w : World) (hr : RI w a l.length l) (hA : Holds (tabA g) w) : Calls Tryz.prog 36 #[ptr g.p, pdV p, .slice a l.length c] w fun e w' => ∃ la lc, e = .returned (atV (atomOf g.vs p l) la lc) ∧ Turns [] [rowT la lc (atomOf g.vs p l).args] w w' := by
  refine enterS (args := [ptr g.p, pdV p, .slice a l.length c]) (fun _ => False) Tryz.func36 rfl Tryz.ntmps36 rfl rfl ?_
  refine WC.seq ?_
  refine WC.region ?_
  refine WL.box rfl rfl rfl ?_
  intro b4
  refine WL.alloc T.zr34 rfl ?_
  intro b6
  refine WL.nil ?_
  refine WX.next ?_
  refine WC.seq ?_
  refine WC.drawn (fun w' => Keeps w w' ∧ w'.heap[b4]? = some (.cells (pdC p).toArray 43 (0, 0))) [] (by kernel_rfl) (by kernel_rfl) (m := 12) rfl ?_
  refine WH.free 0 rfl (by kernel_rfl) (by kernel_rfl) (by kernel_rfl) rfl (fun _ => (fun _ hw => ⟨hw.keeps, hw.it (own b4 _) (by simp)⟩)) (OV.move rfl) rfl (listed' := [true, false, false, false, false, false, false, false, false, false, false, false]) rfl ?_
  refine WH.free 1 rfl (by kernel_rfl) (by kernel_rfl) (by kernel_rfl) rfl (fun _ => (fun _ hw => ⟨hw.keeps, hw.it (own b4 _) (by simp)⟩)) (OV.nilCheck rfl) rfl (listed' := [true, true, false, false, false, false, false, false, false, false, false, false]) rfl ?_
  first
  | (refine WH.free 2 rfl (by kernel_rfl) (by kernel_rfl) (by kernel_rfl) rfl (fun _ => (fun _ hw => ⟨hw.keeps, hw.it (own b4 _) (by simp)⟩)) (OV.fieldAddr0 (off := 0) rfl T.u84 rfl) rfl (listed' := [true, true, true, false, false, false, false, false, false, false, false, false]) rfl ?_)
  | (refine WH.free 2 rfl (by kernel_rfl) (by kernel_rfl) (by kernel_rfl) rfl (fun _ => (fun _ hw => ⟨hw.keeps, hw.it (own b4 _) (by simp)⟩)) (OV.fieldAddr (off := 0) rfl T.u84 rfl) rfl (listed' := [true, true, true, false, false, false, false, false, false, false, false, false]) rfl ?_)
  refine WH.free 3 rfl (by kernel_rfl) (by kernel_rfl) (by kernel_rfl) rfl (fun _ => (fun _ hw => ⟨hw.keeps, hw.it (own b4 _) (by simp)⟩)) (OV.move rfl) rfl (listed' := [true, true, true, true, false, false, false, false, false, false, false, false]) rfl ?_
  obtain ⟨n0, hn0, ht0⟩ := inVs_get hin h0
  obtain ⟨t0, htt⟩ : ∃ t0, t0 = valAt g.vs (l.getD 0 0) := ⟨_, rfl⟩
  rw [← htt] at ht0
  obtain ⟨q, rfl⟩ := hr.some h0
  refine WH.free 4 rfl (by kernel_rfl) (by kernel_rfl) (by kernel_rfl) rfl (fun _ => (fun _ hw => ⟨hw.keeps, hw.it (own b4 _) (by simp)⟩)) ((OV.indexSliceA (i := 0) rfl rfl T.u74 T.z3 h0).cast (u := .pointer (some q)) (by rw [addr_add0])) rfl (listed' := [true, true, true, true, true, false, false, false, false, false, false, false]) rfl ?_
  refine WH.take 5 rfl (by kernel_rfl) (by kernel_rfl) (by kernel_rfl) (by kernel_rfl) (fun _ hw => ⟨hw.keeps, hw.it (own b4 _) (by simp)⟩) (OV.load1 (v := .int .i64 ((n0 : Nat) : Int)) rfl T.u3 rfl (fun _ hw => hw.1 _ _ (by have h1 := hr.cell h0; rw [hn0, addr_add0] at h1; exact h1))) rfl (listed' := [true, true, true, true, true, true, false, false, false, false, false, false]) rfl ?_
  first
  | (refine WH.free 7 rfl (by kernel_rfl) (by kernel_rfl) (by kernel_rfl) rfl (fun _ => (fun _ hw => ⟨hw.keeps, hw.it (own b4 _) (by simp)⟩)) (OV.fieldAddr0 (off := 0) rfl T.u43 rfl) rfl (listed' := [true, true, true, true, true, true, false, true, false, false, false, false]) rfl ?_)
  | (refine WH.free 7 rfl (by kernel_rfl) (by kernel_rfl) (by kernel_rfl) rfl (fun _ => (fun _ hw => ⟨hw.keeps, hw.it (own b4 _) (by simp)⟩)) (OV.fieldAddr (off := 0) rfl T.u43 rfl) rfl (listed' := [true, true, true, true, true, true, false, true, false, false, false, false]) rfl ?_)
  refine WH.take 8 rfl (by kernel_rfl) (by kernel_rfl) (by kernel_rfl) (by kernel_rfl) (fun _ hw => ⟨hw.keeps, hw.it (own b4 _) (by simp)⟩) (OV.load1 (v := .string p.name) rfl T.u9 rfl (fun _ hw => (cell_at hw.2 (o := 0) rfl).1)) rfl (listed' := [true, true, true, true, true, true, false, true, true, false, false, false]) rfl ?_
  refine WH.two 6 10 rfl rfl (by kernel_rfl) (listed1 := [true, true, true, true, true, true, true, true, true, false, false, false]) rfl (listed2 := [true, true, true, true, true, true, false, true, true, false, true, false]) rfl (fl1 := false) rfl (fl2 := false) rfl ?_ ?_
  · refine WL.call0 (v := tmV t0) (vs := [ptr g.p, .int .i64 ((n0 : Nat) : Int)]) (by kernel_rfl) rfl rfl (fun w' hw' => value_calls g ok n0 t0 ht0 w' (hA.fr0 hw'.fr)) ?_
    refine WL.nil ?_
    refine WX.contD (by kernel_rfl) (fun _ => (fun _ hw => ⟨hw.keeps, hw.it (own b4 _) (by simp)⟩)) ?_
    refine WH.free 9 rfl (by kernel_rfl) (by kernel_rfl) (by kernel_rfl) rfl (fun _ => (fun _ hw => ⟨hw.keeps, hw.it (own b4 _) (by simp)⟩)) (OV.buildStruct (xs := [(0, .tmp 16), (1, .tmp 18)]) (pl := [(0, 3), (3, 1), (4, 1)]) (cs := atC ⟨t0, p.name, []⟩ none 0) T.u34 T.zr34 (by kernel_rfl) rfl (fill_cons (us := tmC t0) rfl rfl (Nat.le_of_ble_eq_true rfl) (fill_cons (us := [_]) rfl rfl (Nat.le_of_ble_eq_true rfl) rfl))) rfl (listed' := [true, true, true, true, true, true, true, true, true, true, false, false]) rfl ?_
    refine WH.only 10 rfl (by kernel_rfl) (listed' := [true, true, true, true, true, true, true, true, true, true, true, false]) rfl (fl' := false) rfl ?_
    refine WL.alloc T.zr34 rfl ?_
    intro b7
    refine WL.nil ?_
    refine WX.contD (by kernel_rfl) (fun _ => (fun _ hw => ⟨hw.keeps, hw.it (own b4 _) (by simp)⟩)) ?_
    refine WH.only 11 rfl (by kernel_rfl) (listed' := [true, true, true, true, true, true, true, true, true, true, true, true]) rfl (fl' := false) rfl ?_
    refine WL.storeAll (vs := atC ⟨t0, p.name, []⟩ none 0) rfl rfl rfl T.z34 rfl ?_
    refine WL.nil ?_
    refine WX.contD (by kernel_rfl) (fun _ => (fun _ hw => ⟨hw.keeps, hw.it (own b4 _) (by simp)⟩)) ?_
    refine WH.done (by kernel_rfl) ?_
    refine WX.next ?_
    refine WC.seq ?_
    refine WC.seq ?_
    refine WC.region ?_
    refine WL.val (OV.move rfl) rfl ?_
    refine WL.val (OV.sliceFrom (k := 1) rfl T.u74 T.z3 rfl ⟨by omega, hc⟩) rfl ?_
    first
    | (refine WL.val (OV.lenSlice rfl T.u74) rfl ?_)
    | (refine WL.val (OV.lenStr rfl T.u74) rfl ?_)
    refine WL.val (OV.move rfl) rfl ?_
    refine WL.nil ?_
    refine WX.next ?_
    refine WC.block ?_
    have hcut := RI.cut1 hr hc h0
    refine WC.weak (S' := Sat w (fun _ => False) (fun b => b < w.heap.size) w (own b7 (.cells (atC ⟨t0, p.name, []⟩ none 0).toArray 34 (0, 0)) :: own b6 (.cells (atC ⟨T0, E0, []⟩ none 0).toArray 34 (0, 0)) :: own b4 (.cells (pdC p).toArray 43 (0, 0)) :: row 31 3 none 0 0 [] :: [])) (fun w' hw => (hw.rowNil 31 3).perm (perm_pick [_, _, _, _] [1, 2, 3, 0] (by decide) rfl)) ?_
    refine WC.loop4 (fun (i : Nat) (la : Option Addr) (lc : Nat) (args : List Tm) => [(0, ptr g.p), (6, .pointer (some ⟨b6, 0, none⟩)), (7, .pointer (some ⟨b7, 0, none⟩)), (21, .slice (cut (some q) c 1) (l.length - 1) (c - 1)), (22, .int .i64 ((l.length - 1 : Nat) : Int)), (23, .int .i64 (i : Int))])
        (fun i la lc args w' => (i ≤ l.length - 1 ∧ args.length = i ∧ args = ((l.drop 1).take i).map (valAt g.vs)) ∧ Sat w (fun _ => False) (fun b => b < w.heap.size) w (own b7 (.cells (atC ⟨t0, p.name, args⟩ la lc).toArray 34 (0, 0)) :: own b6 (.cells (atC ⟨T0, E0, []⟩ none 0).toArray 34 (0, 0)) :: own b4 (.cells (pdC p).toArray 43 (0, 0)) :: rowT la lc args :: []) w')
        (fun i _ _ _ => l.length - 1 - i) 0 none 0 [] ⟨rfl, rfl, rfl, rfl, rfl, rfl, trivial⟩ (fun w' hw => ⟨⟨by omega, rfl, rfl⟩, hw⟩) ?_
    intro i la lc args
    refine WC.pure (fun hi => ?_)
    obtain ⟨hi, hal, hae⟩ := hi
    refine WC.seq ?_
    refine WC.region ?_
    refine WL.val (OV.lss rfl rfl) rfl ?_
    refine WL.nil ?_
    refine WX.next ?_
    refine WC.seq ?_
    refine WC.cond rfl (fun c24 => ?_) (fun c24 => ?_)
    · try simp only [decide_eq_true_eq, decide_eq_false_iff_not, Bool.not_eq_true', Bool.not_eq_false'] at c24
      refine WC.skip ?_
      refine WX.next ?_
      refine WC.seq ?_
      refine WC.block ?_
      refine WC.seq ?_
      refine WC.region ?_
      have hil : i < (l.drop 1).length := by simp; omega
      have hi1 : i + 1 < l.length := by omega
      obtain ⟨n, hn, ht⟩ := inVs_get hin hi1
      obtain ⟨q1, hq1⟩ := hcut.some (by omega)
      refine WL.val (OV.indexSliceA (a := q1) (i := i) (show _ = some (Value.slice (some q1) (l.length - 1) (c - 1)) by rw [← hq1]; rfl) rfl T.u74 T.z3 (by omega)) rfl ?_
      refine WL.val (OV.load1 (v := .int .i64 ((n : Nat) : Int)) rfl T.u3 rfl (fun _ hw => hw.keeps _ _ (by have h1 := (hq1 ▸ hcut).cell hil; rw [show (l.drop 1).getD i 0 = ((n : Nat) : Int) by rw [← hn]; simp [List.getD_eq_getElem?_getD, Nat.add_comm]] at h1; exact h1))) rfl ?_
      refine WL.val (OV.assign rfl) rfl ?_
      refine WL.nil ?_
      refine WX.next ?_
      refine WC.drawn (fun w' => w'.heap[b7]? = some (.cells (atC ⟨t0, p.name, args⟩ la lc).toArray 34 (0, 0))) [10] (by kernel_rfl) (by kernel_rfl) (m := 11) rfl ?_
      first
      | (refine WH.free 0 rfl (by kernel_rfl) (by kernel_rfl) (by kernel_rfl) rfl (fun _ => (fun _ hw => hw.it (own b7 _) (by simp))) (OV.fieldAddr0 (off := 4) rfl T.u34 rfl) rfl (listed' := [true, false, false, false, false, false, false, false, false, false, false]) rfl ?_)
      | (refine WH.free 0 rfl (by kernel_rfl) (by kernel_rfl) (by kernel_rfl) rfl (fun _ => (fun _ hw => hw.it (own b7 _) (by simp))) (OV.fieldAddr (off := 4) rfl T.u34 rfl) rfl (listed' := [true, false, false, false, false, false, false, false, false, false, false]) rfl ?_)
      refine WH.take 1 rfl (by kernel_rfl) (by kernel_rfl) (by kernel_rfl) (by kernel_rfl) (fun _ hw => hw.it (own b7 _) (by simp)) (OV.load1 (v := .slice la args.length lc) rfl T.u32 rfl (fun _ hw => (cell_at hw (o := 4) rfl).1)) rfl (listed' := [true, true, false, false, false, false, false, false, false, false, false]) rfl ?_
      refine WH.free 2 rfl (by kernel_rfl) (by kernel_rfl) (by kernel_rfl) rfl (fun _ => (fun _ hw => hw.it (own b7 _) (by simp))) (OV.move rfl) rfl (listed' := [true, true, true, false, false, false, false, false, false, false, false]) rfl ?_
      refine WH.free 3 rfl (by kernel_rfl) (by kernel_rfl) (by kernel_rfl) rfl (fun _ => (fun _ hw => hw.it (own b7 _) (by simp))) (OV.nilCheck rfl) rfl (listed' := [true, true, true, true, false, false, false, false, false, false, false]) rfl ?_
      first
      | (refine WH.free 4 rfl (by kernel_rfl) (by kernel_rfl) (by kernel_rfl) rfl (fun _ => (fun _ hw => hw.it (own b7 _) (by simp))) (OV.fieldAddr0 (off := 0) rfl T.u84 rfl) rfl (listed' := [true, true, true, true, true, false, false, false, false, false, false]) rfl ?_)
      | (refine WH.free 4 rfl (by kernel_rfl) (by kernel_rfl) (by kernel_rfl) rfl (fun _ => (fun _ hw => hw.it (own b7 _) (by simp))) (OV.fieldAddr (off := 0) rfl T.u84 rfl) rfl (listed' := [true, true, true, true, true, false, false, false, false, false, false]) rfl ?_)
      refine WH.free 5 rfl (by kernel_rfl) (by kernel_rfl) (by kernel_rfl) rfl (fun _ => (fun _ hw => hw.it (own b7 _) (by simp))) (OV.move rfl) rfl (listed' := [true, true, true, true, true, true, false, false, false, false, false]) rfl ?_
      refine WH.only 6 rfl (by kernel_rfl) (listed' := [true, true, true, true, true, true, true, false, false, false, false]) rfl (fl' := false) rfl ?_
      refine WL.call0 (v := tmV (valAt g.vs (l.getD (i + 1) 0))) (vs := [ptr g.p, .int .i64 ((n : Nat) : Int)]) (by kernel_rfl) rfl rfl (fun w' hw' => value_calls g ok n (valAt g.vs (l.getD (i + 1) 0)) ht w' (hA.fr0 hw'.fr)) ?_
      refine WL.nil ?_
      refine WX.contD (by kernel_rfl) (fun _ => (fun _ hw => hw.it (own b7 _) (by simp))) ?_
      refine WH.only 7 rfl (by kernel_rfl) (listed' := [true, true, true, true, true, true, true, true, false, false, false]) rfl (fl' := false) rfl ?_
      refine WL.buildSliceA (cs := tmC (valAt g.vs (l.getD (i + 1) 0))) T.u32 T.z31 T.zr31 rfl rfl (by omega) (by omega) rfl ?_
      intro b34
      refine WL.nil ?_
      refine WX.contD (by kernel_rfl) (fun _ => (fun _ hw => hw.it (own b7 _) (by simp))) ?_
      refine WH.only 8 rfl (by kernel_rfl) (listed' := [true, true, true, true, true, true, true, true, true, false, false]) rfl (fl' := false) rfl ?_
      refine WL.focus (ow' := rowT la lc args :: own b34 (.cells (tmC (valAt g.vs (l.getD (i + 1) 0))).toArray 31 (0, 0)) :: own b7 (.cells (atC ⟨t0, p.name, args⟩ la lc).toArray 34 (0, 0)) :: own b6 (.cells (atC ⟨T0, E0, []⟩ none 0).toArray 34 (0, 0)) :: own b4 (.cells (pdC p).toArray 43 (0, 0)) :: []) (perm_pick [_, _, _, _, _] [4, 0, 1, 2, 3] (by decide) rfl) ?_
      refine WL.append (news := tmC (valAt g.vs (l.getD (i + 1) 0))) rfl rfl T.apT (fun _ _ => own_srcN (.tail _ (.head _)) rfl) (tmC_one _) ⟨by omega, by unfold maxLen; omega⟩ rfl ?_
      intro a35 c35
      refine WL.nil ?_
      refine WX.contD (by kernel_rfl) (fun _ => (fun _ hw => hw.it (own b7 _) (by simp))) ?_
      first
      | (refine WH.free 9 rfl (by kernel_rfl) (by kernel_rfl) (by kernel_rfl) rfl (fun _ => (fun _ hw => hw.it (own b7 _) (by simp))) (OV.fieldAddr0 (off := 4) rfl T.u34 rfl) rfl (listed' := [true, true, true, true, true, true, true, true, true, true, false]) rfl ?_)
      | (refine WH.free 9 rfl (by kernel_rfl) (by kernel_rfl) (by kernel_rfl) rfl (fun _ => (fun _ hw => hw.it (own b7 _) (by simp))) (OV.fieldAddr (off := 4) rfl T.u34 rfl) rfl (listed' := [true, true, true, true, true, true, true, true, true, true, false]) rfl ?_)
      refine WH.only 10 rfl (by kernel_rfl) (listed' := [true, true, true, true, true, true, true, true, true, true, true]) rfl (fl' := true) rfl ?_
      refine WL.focus perm2 (WL.store1 (o := 4) rfl rfl rfl T.z32 (by show 4 < 5; omega) ?_)
      refine WL.nil ?_
      refine WX.contD (by kernel_rfl) (fun h => by cases h) ?_
      refine WH.done (by kernel_rfl) ?_
      refine WX.block_normal ?_
      refine WX.next ?_
      refine WC.region ?_
      refine WL.val (OV.addN (j := 1) rfl rfl (by omega)) rfl ?_
      refine WL.val (OV.move rfl) rfl ?_
      refine WL.nil ?_
      have el : args.length + 1 = (args ++ [valAt g.vs (l.getD (i + 1) 0)]).length := by simp
      have ef : args.flatMap tmC ++ tmC (valAt g.vs (l.getD (i + 1) 0)) = (args ++ [valAt g.vs (l.getD (i + 1) 0)]).flatMap tmC := by simp
      exact WX.round4 (i + 1) a35 c35 (args ++ [valAt g.vs (l.getD (i + 1) 0)]) ⟨rfl, rfl, rfl, rfl, rfl, rfl, trivial⟩ (fun w' hw => ⟨⟨by omega, by simp [hal], by
        rw [List.take_add_one, List.map_append, ← hae, List.getElem?_eq_getElem hil]
        simp [List.getD_eq_getElem?_getD, Nat.add_comm, List.getElem?_eq_getElem hi1]⟩, by
        rw [el, ef] at hw
        exact hw.pick [[own b7 (.cells (atC ⟨t0, p.name, args ++ [valAt g.vs (l.getD (i + 1) 0)]⟩ a35 c35).toArray 34 (0, 0))], [rowT a35 c35 (args ++ [valAt g.vs (l.getD (i + 1) 0)])], [own b34 (.cells (tmC (valAt g.vs (l.getD (i + 1) 0))).toArray 31 (0, 0))], [own b6 (.cells (atC ⟨T0, E0, []⟩ none 0).toArray 34 (0, 0))], [own b4 (.cells (pdC p).toArray 43 (0, 0))]] [0, 3, 4, 1] 5 rfl (by decide) (by decide)⟩) (by show l.length - 1 - (i + 1) < l.length - 1 - i; omega)
    · try simp only [decide_eq_true_eq, decide_eq_false_iff_not, Bool.not_eq_true', Bool.not_eq_false'] at c24
      refine WC.exit ?_
      refine WX.then_exit ?_
      refine WX.then_exit ?_
      refine WX.block_hit ?_
      refine WX.next ?_
      refine WC.seq ?_
      refine WC.region ?_
      refine WL.val (OV.loadN (cs := atC ⟨t0, p.name, args⟩ la lc) rfl T.u34 rfl T.z34 (fun _ hw j v hj => by rw [add_off, Nat.zero_add]; exact own_cells hw (.head _) j v hj)) rfl ?_
      refine WL.focus perm1 (WL.storeAll (vs := atC ⟨t0, p.name, args⟩ la lc) rfl rfl rfl T.z34 rfl ?_)
      refine WL.nil ?_
      refine WX.next ?_
      refine WC.ret ?_
      rw [List.take_of_length_le (by simp; omega)] at hae
      have hat : atomOf g.vs p l = ⟨t0, p.name, args⟩ := by rw [hae, htt]; rfl
      rw [hat]
      refine WX.retC (cs := atC ⟨t0, p.name, args⟩ la lc) rfl rfl rfl T.u34 rfl T.z34 (fun w' hw j v hj => own_cells hw (.head _) j v hj) (fun w' hw => ⟨la, lc, rfl, ?_⟩)
      exact (hw.pick [[own b6 (.cells (atC ⟨t0, p.name, args⟩ la lc).toArray 34 (0, 0))], [own b7 (.cells (atC ⟨t0, p.name, args⟩ la lc).toArray 34 (0, 0))], [own b4 (.cells (pdC p).toArray 43 (0, 0))], [rowT la lc args]] [3] 4 rfl (by decide) (by decide)).turned0
  · refine WL.alloc T.zr34 rfl ?_
    intro b7
    refine WL.nil ?_
    refine WX.contD (by kernel_rfl) (fun _ => (fun _ hw => ⟨hw.keeps, hw.it (own b4 _) (by simp)⟩)) ?_
    refine WH.only 6 rfl (by kernel_rfl) (listed' := [true, true, true, true, true, true, true, true, true, false, true, false]) rfl (fl' := false) rfl ?_
    refine WL.call0 (v := tmV t0) (vs := [ptr g.p, .int .i64 ((n0 : Nat) : Int)]) (by kernel_rfl) rfl rfl (fun w' hw' => value_calls g ok n0 t0 ht0 w' (hA.fr0 hw'.fr)) ?_
    refine WL.nil ?_
    refine WX.contD (by kernel_rfl) (fun _ => (fun _ hw => ⟨hw.keeps, hw.it (own b4 _) (by simp)⟩)) ?_
    refine WH.free 9 rfl (by kernel_rfl) (by kernel_rfl) (by kernel_rfl) rfl (fun _ => (fun _ hw => ⟨hw.keeps, hw.it (own b4 _) (by simp)⟩)) (OV.buildStruct (xs := [(0, .tmp 16), (1, .tmp 18)]) (pl := [(0, 3), (3, 1), (4, 1)]) (cs := atC ⟨t0, p.name, []⟩ none 0) T.u34 T.zr34 (by kernel_rfl) rfl (fill_cons (us := tmC t0) rfl rfl (Nat.le_of_ble_eq_true rfl) (fill_cons (us := [_]) rfl rfl (Nat.le_of_ble_eq_true rfl) rfl))) rfl (listed' := [true, true, true, true, true, true, true, true, true, true, true, false]) rfl ?_
    refine WH.only 11 rfl (by kernel_rfl) (listed' := [true, true, true, true, true, true, true, true, true, true, true, true]) rfl (fl' := false) rfl ?_
    refine WL.storeAll (vs := atC ⟨t0, p.name, []⟩ none 0) rfl rfl rfl T.z34 rfl ?_
    refine WL.nil ?_
    refine WX.contD (by kernel_rfl) (fun _ => (fun _ hw => ⟨hw.keeps, hw.it (own b4 _) (by simp)⟩)) ?_
    refine WH.done (by kernel_rfl) ?_
    refine WX.next ?_
    refine WC.seq ?_
    refine WC.seq ?_
    refine WC.region ?_
    refine WL.val (OV.move rfl) rfl ?_
    refine WL.val (OV.sliceFrom (k := 1) rfl T.u74 T.z3 rfl ⟨by omega, hc⟩) rfl ?_
    first
    | (refine WL.val (OV.lenSlice rfl T.u74) rfl ?_)
    | (refine WL.val (OV.lenStr rfl T.u74) rfl ?_)
    refine WL.val (OV.move rfl) rfl ?_
    refine WL.nil ?_
    refine WX.next ?_
    refine WC.block ?_
    have hcut := RI.cut1 hr hc h0
    refine WC.weak (S' := Sat w (fun _ => False) (fun b => b < w.heap.size) w (own b7 (.cells (atC ⟨t0, p.name, []⟩ none 0).toArray 34 (0, 0)) :: own b6 (.cells (atC ⟨T0, E0, []⟩ none 0).toArray 34 (0, 0)) :: own b4 (.cells (pdC p).toArray 43 (0, 0)) :: row 31 3 none 0 0 [] :: [])) (fun w' hw => (hw.rowNil 31 3).perm (perm_pick [_, _, _, _] [1, 2, 3, 0] (by decide) rfl)) ?_
    refine WC.loop4 (fun (i : Nat) (la : Option Addr) (lc : Nat) (args : List Tm) => [(0, ptr g.p), (6, .pointer (some ⟨b6, 0, none⟩)), (7, .pointer (some ⟨b7, 0, none⟩)), (21, .slice (cut (some q) c 1) (l.length - 1) (c - 1)), (22, .int .i64 ((l.length - 1 : Nat) : Int)), (23, .int .i64 (i : Int))])
        (fun i la lc args w' => (i ≤ l.length - 1 ∧ args.length = i ∧ args = ((l.drop 1).take i).map (valAt g.vs)) ∧ Sat w (fun _ => False) (fun b => b < w.heap.size) w (own b7 (.cells (atC ⟨t0, p.name, args⟩ la lc).toArray 34 (0, 0)) :: own b6 (.cells (atC ⟨T0, E0, []⟩ none 0).toArray 34 (0, 0)) :: own b4 (.cells (pdC p).toArray 43 (0, 0)) :: rowT la lc args :: []) w')
        (fun i _ _ _ => l.length - 1 - i) 0 none 0 [] ⟨rfl, rfl, rfl, rfl, rfl, rfl, trivial⟩ (fun w' hw => ⟨⟨by omega, rfl, rfl⟩, hw⟩) ?_
    intro i la lc args
    refine WC.pure (fun hi => ?_)
    obtain ⟨hi, hal, hae⟩ := hi
    refine WC.seq ?_
    refine WC.region ?_
    refine WL.val (OV.lss rfl rfl) rfl ?_
    refine WL.nil ?_
    refine WX.next ?_
    refine WC.seq ?_
    refine WC.cond rfl (fun c24 => ?_) (fun c24 => ?_)
    · try simp only [decide_eq_true_eq, decide_eq_false_iff_not, Bool.not_eq_true', Bool.not_eq_false'] at c24
      refine WC.skip ?_
      refine WX.next ?_
      refine WC.seq ?_
      refine WC.block ?_
      refine WC.seq ?_
      refine WC.region ?_
      have hil : i < (l.drop 1).length := by simp; omega
      have hi1 : i + 1 < l.length := by omega
      obtain ⟨n, hn, ht⟩ := inVs_get hin hi1
      obtain ⟨q1, hq1⟩ := hcut.some (by omega)
      refine WL.val (OV.indexSliceA (a := q1) (i := i) (show _ = some (Value.slice (some q1) (l.length - 1) (c - 1)) by rw [← hq1]; rfl) rfl T.u74 T.z3 (by omega)) rfl ?_
      refine WL.val (OV.load1 (v := .int .i64 ((n : Nat) : Int)) rfl T.u3 rfl (fun _ hw => hw.keeps _ _ (by have h1 := (hq1 ▸ hcut).cell hil; rw [show (l.drop 1).getD i 0 = ((n : Nat) : Int) by rw [← hn]; simp [List.getD_eq_getElem?_getD, Nat.add_comm]] at h1; exact h1))) rfl ?_
      refine WL.val (OV.assign rfl) rfl ?_
      refine WL.nil ?_
      refine WX.next ?_
      refine WC.drawn (fun w' => w'.heap[b7]? = some (.cells (atC ⟨t0, p.name, args⟩ la lc).toArray 34 (0, 0))) [10] (by kernel_rfl) (by kernel_rfl) (m := 11) rfl ?_
      first
      | (refine WH.free 0 rfl (by kernel_rfl) (by kernel_rfl) (by kernel_rfl) rfl (fun _ => (fun _ hw => hw.it (own b7 _) (by simp))) (OV.fieldAddr0 (off := 4) rfl T.u34 rfl) rfl (listed' := [true, false, false, false, false, false, false, false, false, false, false]) rfl ?_)
      | (refine WH.free 0 rfl (by kernel_rfl) (by kernel_rfl) (by kernel_rfl) rfl (fun _ => (fun _ hw => hw.it (own b7 _) (by simp))) (OV.fieldAddr (off := 4) rfl T.u34 rfl) rfl (listed' := [true, false, false, false, false, false, false, false, false, false, false]) rfl ?_)
      refine WH.take 1 rfl (by kernel_rfl) (by kernel_rfl) (by kernel_rfl) (by kernel_rfl) (fun _ hw => hw.it (own b7 _) (by simp)) (OV.load1 (v := .slice la args.length lc) rfl T.u32 rfl (fun _ hw => (cell_at hw (o := 4) rfl).1)) rfl (listed' := [true, true, false, false, false, false, false, false, false, false, false]) rfl ?_
      refine WH.free 2 rfl (by kernel_rfl) (by kernel_rfl) (by kernel_rfl) rfl (fun _ => (fun _ hw => hw.it (own b7 _) (by simp))) (OV.move rfl) rfl (listed' := [true, true, true, false, false, false, false, false, false, false, false]) rfl ?_
      refine WH.free 3 rfl (by kernel_rfl) (by kernel_rfl) (by kernel_rfl) rfl (fun _ => (fun _ hw => hw.it (own b7 _) (by simp))) (OV.nilCheck rfl) rfl (listed' := [true, true, true, true, false, false, false, false, false, false, false]) rfl ?_
      first
      | (refine WH.free 4 rfl (by kernel_rfl) (by kernel_rfl) (by kernel_rfl) rfl (fun _ => (fun _ hw => hw.it (own b7 _) (by simp))) (OV.fieldAddr0 (off := 0) rfl T.u84 rfl) rfl (listed' := [true, true, true, true, true, false, false, false, false, false, false]) rfl ?_)
      | (refine WH.free 4 rfl (by kernel_rfl) (by kernel_rfl) (by kernel_rfl) rfl (fun _ => (fun _ hw => hw.it (own b7 _) (by simp))) (OV.fieldAddr (off := 0) rfl T.u84 rfl) rfl (listed' := [true, true, true, true, true, false, false, false, false, false, false]) rfl ?_)
      refine WH.free 5 rfl (by kernel_rfl) (by kernel_rfl) (by kernel_rfl) rfl (fun _ => (fun _ hw => hw.it (own b7 _) (by simp))) (OV.move rfl) rfl (listed' := [true, true, true, true, true, true, false, false, false, false, false]) rfl ?_
      refine WH.only 6 rfl (by kernel_rfl) (listed' := [true, true, true, true, true, true, true, false, false, false, false]) rfl (fl' := false) rfl ?_
      refine WL.call0 (v := tmV (valAt g.vs (l.getD (i + 1) 0))) (vs := [ptr g.p, .int .i64 ((n : Nat) : Int)]) (by kernel_rfl) rfl rfl (fun w' hw' => value_calls g ok n (valAt g.vs (l.getD (i + 1) 0)) ht w' (hA.fr0 hw'.fr)) ?_
      refine WL.nil ?_
      refine WX.contD (by kernel_rfl) (fun _ => (fun _ hw => hw.it (own b7 _) (by simp))) ?_
      refine WH.only 7 rfl (by kernel_rfl) (listed' := [true, true, true, true, true, true, true, true, false, false, false]) rfl (fl' := false) rfl ?_
      refine WL.buildSliceA (cs := tmC (valAt g.vs (l.getD (i + 1) 0))) T.u32 T.z31 T.zr31 rfl rfl (by omega) (by omega) rfl ?_
      intro b34
      refine WL.nil ?_
      refine WX.contD (by kernel_rfl) (fun _ => (fun _ hw => hw.it (own b7 _) (by simp))) ?_
      refine WH.only 8 rfl (by kernel_rfl) (listed' := [true, true, true, true, true, true, true, true, true, false, false]) rfl (fl' := false) rfl ?_
      refine WL.focus (ow' := rowT la lc args :: own b34 (.cells (tmC (valAt g.vs (l.getD (i + 1) 0))).toArray 31 (0, 0)) :: own b7 (.cells (atC ⟨t0, p.name, args⟩ la lc).toArray 34 (0, 0)) :: own b6 (.cells (atC ⟨T0, E0, []⟩ none 0).toArray 34 (0, 0)) :: own b4 (.cells (pdC p).toArray 43 (0, 0)) :: []) (perm_pick [_, _, _, _, _] [4, 0, 1, 2, 3] (by decide) rfl) ?_
      refine WL.append (news := tmC (valAt g.vs (l.getD (i + 1) 0))) rfl rfl T.apT (fun _ _ => own_srcN (.tail _ (.head _)) rfl) (tmC_one _) ⟨by omega, by unfold maxLen; omega⟩ rfl ?_
      intro a35 c35
      refine WL.nil ?_
      refine WX.contD (by kernel_rfl) (fun _ => (fun _ hw => hw.it (own b7 _) (by simp))) ?_
      first
      | (refine WH.free 9 rfl (by kernel_rfl) (by kernel_rfl) (by kernel_rfl) rfl (fun _ => (fun _ hw => hw.it (own b7 _) (by simp))) (OV.fieldAddr0 (off := 4) rfl T.u34 rfl) rfl (listed' := [true, true, true, true, true, true, true, true, true, true, false]) rfl ?_)
      | (refine WH.free 9 rfl (by kernel_rfl) (by kernel_rfl) (by kernel_rfl) rfl (fun _ => (fun _ hw => hw.it (own b7 _) (by simp))) (OV.fieldAddr (off := 4) rfl T.u34 rfl) rfl (listed' := [true, true, true, true, true, true, true, true, true, true, false]) rfl ?_)
      refine WH.only 10 rfl (by kernel_rfl) (listed' := [true, true, true, true, true, true, true, true, true, true, true]) rfl (fl' := true) rfl ?_
      refine WL.focus perm2 (WL.store1 (o := 4) rfl rfl rfl T.z32 (by show 4 < 5; omega) ?_)
      refine WL.nil ?_
      refine WX.contD (by kernel_rfl) (fun h => by cases h) ?_
      refine WH.done (by kernel_rfl) ?_
      refine WX.block_normal ?_
      refine WX.next ?_
      refine WC.region ?_
      refine WL.val (OV.addN (j := 1) rfl rfl (by omega)) rfl ?_
      refine WL.val (OV.move rfl) rfl ?_
      refine WL.nil ?_
      have el : args.length + 1 = (args ++ [valAt g.vs (l.getD (i + 1) 0)]).length := by simp
      have ef : args.flatMap tmC ++ tmC (valAt g.vs (l.getD (i + 1) 0)) = (args ++ [valAt g.vs (l.getD (i + 1) 0)]).flatMap tmC := by simp
      exact WX.round4 (i + 1) a35 c35 (args ++ [valAt g.vs (l.getD (i + 1) 0)]) ⟨rfl, rfl, rfl, rfl, rfl, rfl, trivial⟩ (fun w' hw => ⟨⟨by omega, by simp [hal], by
        rw [List.take_add_one, List.map_append, ← hae, List.getElem?_eq_getElem hil]
        simp [List.getD_eq_getElem?_getD, Nat.add_comm, List.getElem?_eq_getElem hi1]⟩, by
        rw [el, ef] at hw
        exact hw.pick [[own b7 (.cells (atC ⟨t0, p.name, args ++ [valAt g.vs (l.getD (i + 1) 0)]⟩ a35 c35).toArray 34 (0, 0))], [rowT a35 c35 (args ++ [valAt g.vs (l.getD (i + 1) 0)])], [own b34 (.cells (tmC (valAt g.vs (l.getD (i + 1) 0))).toArray 31 (0, 0))], [own b6 (.cells (atC ⟨T0, E0, []⟩ none 0).toArray 34 (0, 0))], [own b4 (.cells (pdC p).toArray 43 (0, 0))]] [0, 3, 4, 1] 5 rfl (by decide) (by decide)⟩) (by show l.length - 1 - (i + 1) < l.length - 1 - i; omega)
    · try simp only [decide_eq_true_eq, decide_eq_false_iff_not, Bool.not_eq_true', Bool.not_eq_false'] at c24
      refine WC.exit ?_
      refine WX.then_exit ?_
      refine WX.then_exit ?_
      refine WX.block_hit ?_
      refine WX.next ?_
      refine WC.seq ?_
      refine WC.region ?_
      refine WL.val (OV.loadN (cs := atC ⟨t0, p.name, args⟩ la lc) rfl T.u34 rfl T.z34 (fun _ hw j v hj => by rw [add_off, Nat.zero_add]; exact own_cells hw (.head _) j v hj)) rfl ?_
      refine WL.focus perm1 (WL.storeAll (vs := atC ⟨t0, p.name, args⟩ la lc) rfl rfl rfl T.z34 rfl ?_)
      refine WL.nil ?_
      refine WX.next ?_
      refine WC.ret ?_
      rw [List.take_of_length_le (by simp; omega)] at hae
      have hat : atomOf g.vs p l = ⟨t0, p.name, args⟩ := by rw [hae, htt]; rfl
      rw [hat]
      refine WX.retC (cs := atC ⟨t0, p.name, args⟩ la lc) rfl rfl rfl T.u34 rfl T.z34 (fun w' hw j v hj => own_cells hw (.head _) j v hj) (fun w' hw => ⟨la, lc, rfl, ?_⟩)
      exact (hw.pick [[own b6 (.cells (atC ⟨t0, p.name, args⟩ la lc).toArray 34 (0, 0))], [own b7 (.cells (atC ⟨t0, p.name, args⟩ la lc).toArray 34 (0, 0))], [own b4 (.cells (pdC p).toArray 43 (0, 0))], [rowT la lc args]] [3] 4 rfl (by decide) (by decide)).turned0

end Go.Proofs.YtgiiifadbnpfkaaGreatDoor

namespace Go.Proofs.YtgiiifadbnpfkaaGreatDoor
open Go Go.Hw
set_option linter.unusedSimpArgs false
set_option linter.unusedVariables false
def predOf (x : At) : Pd := ⟨x.name, x.args.length⟩
def relOf (rs : List (Pd × RelG)) (p : Pd) : Option RelG := (rs.find? fun x => decide (x.1 = p)).map (·.2)
def factsB (g : BaseG) : List (At × Nat) := g.rs.flatMap fun x => (rp x.2).map fun q => (atomOf g.vs x.1 q.1, q.2)
def addF (F : List (At × Nat)) (x : At) : List (At × Nat) := if factB x = true ∧ x ∉ F.map (·.1) then F ++ [(x, 4)] else F
theorem valAt_num {vs : List Tm} {t : Tm} {n : Nat} (h : numOf vs t = some n) : valAt vs (n : Int) = t := by
  have := numOf_some h
  unfold valAt
  rw [List.getD_eq_getElem?_getD, Int.toNat_natCast, this]
  rfl
theorem rowOf_vals {vs : List Tm} : ∀ {ts : List Tm} {l : List Int}, rowOf vs ts = some l → l.map (valAt vs) = ts
  | [], l, h => by simp [rowOf] at h; subst h; rfl
  | t :: ts, l, h => by
    obtain ⟨n, m, h1, h2, rfl⟩ := rowOf_cons.1 h
    rw [List.map_cons, valAt_num h1, rowOf_vals h2]
theorem atomOf_row {vs : List Tm} {x : At} {l : List Int} (h : rowOf vs (tsOf x) = some l) : atomOf vs (predOf x) l = x := by
  obtain ⟨n, m, h1, h2, rfl⟩ := rowOf_cons.1 h
  have h3 := rowOf_vals h2
  obtain ⟨b, name, args⟩ := x
  simp only [atomOf, predOf, List.getD_cons_zero, List.drop_one, List.tail_cons, valAt_num h1, At.mk.injEq, true_and]
  exact h3
theorem rowOf_in {vs : List Tm} : ∀ {ts : List Tm} {l : List Int}, rowOf vs ts = some l → inVs vs l
  | [], l, h => by simp [rowOf] at h; subst h; intro k hk; cases hk
  | t :: ts, l, h => by
    obtain ⟨n, m, h1, h2, rfl⟩ := rowOf_cons.1 h
    intro k hk
    rcases List.mem_cons.1 hk with rfl | hk
    · have := numOf_lt h1; omega
    · exact rowOf_in h2 k hk
theorem rowOf_map {vs : List Tm} (hn : vs.Nodup) : ∀ {l : List Int}, inVs vs l → rowOf vs (l.map (valAt vs)) = some l
  | [], _ => rfl
  | k :: l, h => by
    obtain ⟨h1, h2⟩ := h k (.head _)
    have h3 : vs[k.toNat]? = some (valAt vs k) := by
      unfold valAt
      rw [List.getD_eq_getElem?_getD, List.getElem?_eq_getElem (by omega)]; rfl
    rw [List.map_cons, rowOf, numOf_nodup hn h3, rowOf_map hn (fun j hj => h j (.tail _ hj))]
    simp only [Option.some.injEq, List.cons.injEq, and_true]
    omega
theorem tsOf_atomOf {vs : List Tm} {p : Pd} {l : List Int} (h0 : 0 < l.length) : tsOf (atomOf vs p l) = l.map (valAt vs) := by
  cases l with
  | nil => simp at h0
  | cons k l => simp [tsOf, atomOf]
theorem predOf_atomOf {vs : List Tm} {p : Pd} {l : List Int} (h : l.length = p.ar + 1) : predOf (atomOf vs p l) = p := by
  obtain ⟨n, a⟩ := p
  simp only [predOf, atomOf, List.length_map, List.length_drop, h, Pd.mk.injEq, true_and]
  simp
theorem atomOf_iff {vs : List Tm} (hn : vs.Nodup) {p : Pd} {l : List Int} (hin : inVs vs l) (hl : l.length = p.ar + 1) (x : At) : atomOf vs p l = x ↔ p = predOf x ∧ rowOf vs (tsOf x) = some l := by
  constructor
  · rintro rfl
    exact ⟨(predOf_atomOf hl).symm, by rw [tsOf_atomOf (by omega)]; exact rowOf_map hn hin⟩
  · rintro ⟨rfl, h⟩
    exact atomOf_row h
theorem relOf_mem {rs : List (Pd × RelG)} {p : Pd} {g : RelG} (h : relOf rs p = some g) : (p, g) ∈ rs := by
  obtain ⟨x, hx, rfl⟩ := Option.map_eq_some_iff.1 h
  have h1 := List.mem_of_find?_eq_some hx
  have h2 := List.find?_some hx
  simp only [decide_eq_true_eq] at h2
  rw [← h2]; exact h1
theorem relOf_of {rs : List (Pd × RelG)} (hn : (rs.map (·.1)).Nodup) {p : Pd} {g : RelG} (h : (p, g) ∈ rs) : relOf rs p = some g := by
  induction rs with
  | nil => cases h
  | cons x rs ih =>
    rw [List.map_cons, List.nodup_cons] at hn
    rw [relOf]
    rcases List.mem_cons.1 h with rfl | h
    · simp
    · have hne : ¬ x.1 = p := fun e => hn.1 (List.mem_map.2 ⟨(p, g), h, e.symm⟩)
      rw [List.find?_cons_of_neg (by simpa using hne)]
      exact ih hn.2 h
theorem relOf_none {rs : List (Pd × RelG)} {p : Pd} (h : relOf rs p = none) : ∀ x ∈ rs, x.1 ≠ p := by
  intro x hx e
  unfold relOf at h
  rw [Option.map_eq_none_iff, List.find?_eq_none] at h
  have := h x hx
  simp [e] at this
theorem relKV_spot (p : Pd) : ∀ (rs : List (Pd × RelG)) (i : Nat), (spot (relKV rs) p i).map (·.2) = (relOf rs p).map fun g => ptr g.r
  | [], i => rfl
  | x :: rs, i => by
    rw [relKV, List.map_cons, spot, relOf]
    by_cases h : p = x.1
    · simp [h]
    · have h' : ¬ x.1 = p := fun e => h e.symm
      simp only [h, if_false]
      rw [List.find?_cons_of_neg (by simpa using h')]
      exact relKV_spot p rs (i + 1)
theorem relKV_got (rs : List (Pd × RelG)) (p : Pd) : got (relKV rs) p = (relOf rs p).map fun g => ptr g.r := relKV_spot p rs 0
theorem relKV_new {rs : List (Pd × RelG)} {p : Pd} {g : RelG} (h : relOf rs p = none) : ups (relKV rs) p (ptr g.r) = relKV (rs ++ [(p, g)]) := by
  rw [ups_new]
  · simp [relKV]
  · intro q hq e
    obtain ⟨z, hz, rfl⟩ := List.mem_map.1 hq
    exact relOf_none h z hz e
theorem rel_row {g : BaseG} (ok : BaseOK g) {x : Pd × RelG} (hx : x ∈ g.rs) {q : List Int × Nat} (hq : q ∈ rp x.2) : q.1.length = x.1.ar + 1 ∧ inVs g.vs q.1 := by
  refine ⟨?_, ok.inr x hx q.1 (List.mem_map.2 ⟨q, hq, rfl⟩)⟩
  obtain ⟨e, he, rfl⟩ := List.mem_map.1 hq
  rw [← ok.wd x hx]
  exact (ok.ok x hx).wid e he
theorem mem_facts {g : BaseG} (ok : BaseOK g) (x : At) (n : Nat) : (x, n) ∈ factsB g ↔ ∃ gr l, relOf g.rs (predOf x) = some gr ∧ rowOf g.vs (tsOf x) = some l ∧ (l, n) ∈ rp gr := by
  unfold factsB
  rw [List.mem_flatMap]
  constructor
  · rintro ⟨⟨p, gr⟩, hm, h⟩
    obtain ⟨q, hq, he⟩ := List.mem_map.1 h
    simp only [Prod.mk.injEq] at he
    obtain ⟨h1, h2⟩ := rel_row ok hm hq
    obtain ⟨rfl, h3⟩ := (atomOf_iff ok.vn h2 h1 x).1 he.1
    exact ⟨gr, q.1, relOf_of ok.rn hm, h3, he.2 ▸ hq⟩
  · rintro ⟨gr, l, h1, h2, h3⟩
    exact ⟨(predOf x, gr), relOf_mem h1, List.mem_map.2 ⟨(l, n), h3, by rw [atomOf_row h2]⟩⟩
theorem mem_facts1 {g : BaseG} (ok : BaseOK g) (x : At) : x ∈ (factsB g).map (·.1) ↔ ∃ gr l, relOf g.rs (predOf x) = some gr ∧ rowOf g.vs (tsOf x) = some l ∧ l ∈ (rp gr).map (·.1) := by
  constructor
  · intro h
    obtain ⟨⟨y, n⟩, hy, rfl⟩ := List.mem_map.1 h
    obtain ⟨gr, l, h1, h2, h3⟩ := (mem_facts ok y n).1 hy
    exact ⟨gr, l, h1, h2, List.mem_map.2 ⟨_, h3, rfl⟩⟩
  · rintro ⟨gr, l, h1, h2, h3⟩
    obtain ⟨⟨l', n⟩, h4, rfl⟩ := List.mem_map.1 h3
    exact List.mem_map.2 ⟨(x, n), (mem_facts ok x n).2 ⟨gr, l', h1, h2, h4⟩, rfl⟩
theorem valAt_pre {vs vs' : List Tm} (h : vs <+: vs') {k : Int} (h1 : 0 ≤ k ∧ k < (vs.length : Int)) : valAt vs' k = valAt vs k := by
  obtain ⟨t, rfl⟩ := h
  unfold valAt
  rw [List.getD_eq_getElem?_getD, List.getD_eq_getElem?_getD, List.getElem?_append_left (by omega)]
theorem atomOf_pre {vs vs' : List Tm} (h : vs <+: vs') {p : Pd} {l : List Int} (hin : inVs vs l) (h0 : 0 < l.length) : atomOf vs' p l = atomOf vs p l := by
  cases l with
  | nil => simp at h0
  | cons k l =>
    simp only [atomOf, List.getD_cons_zero, List.drop_one, List.tail_cons, At.mk.injEq, true_and]
    exact ⟨valAt_pre h (hin k (.head _)), List.map_congr_left fun j hj => valAt_pre h (hin j (.tail _ hj))⟩
theorem factsB_pre {g : BaseG} (ok : BaseOK g) {nb va vc} {vs' : List Tm} (h : g.vs <+: vs') : factsB { g with nb := nb, va := va, vc := vc, vs := vs' } = factsB g := by
  unfold factsB
  simp only [List.flatMap_def]
  refine congrArg List.flatten (List.map_congr_left fun x hx => List.map_congr_left fun q hq => ?_)
  obtain ⟨h1, h2⟩ := rel_row ok hx hq
  rw [atomOf_pre h h2 (by omega)]
theorem BaseOK.vals {g : BaseG} (ok : BaseOK g) {nb va vc} {vs' : List Tm} (h : g.vs <+: vs') (h0 : nb = none → vs' = []) (hn : vs'.Nodup) (hl : vs'.length ≤ 1099511627776) : BaseOK { g with nb := nb, va := va, vc := vc, vs := vs' } where
  nb := h0
  vn := hn
  rn := ok.rn
  ok := ok.ok
  wd := ok.wd
  ar := ok.ar
  inr x hx r hr k hk := by
    have h1 := ok.inr x hx r hr k hk
    have := h.length_le
    exact ⟨h1.1, by show k < (vs'.length : Int); omega⟩
  vl := hl
  rl := ok.rl
  fl := ok.fl
theorem BaseOK.newRel {g : BaseG} (ok : BaseOK g) {p : Pd} {gr : RelG} (h : relOf g.rs p = none) (hok : RelOK gr) (hw : gr.width = p.ar + 1) (ha : p.ar ≤ 8) (he : gr.es = []) (hl : g.rs.length < 1099511627776) : BaseOK { g with rs := g.rs ++ [(p, gr)] } where
  nb := ok.nb
  vn := ok.vn
  rn := by
    show ((g.rs ++ [(p, gr)]).map (·.1)).Nodup
    rw [List.map_append, List.nodup_append]
    refine ⟨ok.rn, by simp, fun a hma b hb => ?_⟩
    simp only [List.map_cons, List.map_nil, List.mem_singleton] at hb
    subst hb
    obtain ⟨z, hz, rfl⟩ := List.mem_map.1 hma
    exact relOf_none h z hz
  ok x hx := by
    rcases List.mem_append.1 hx with h1 | h1
    · exact ok.ok x h1
    · simp only [List.mem_singleton] at h1; subst h1; exact hok
  wd x hx := by
    rcases List.mem_append.1 hx with h1 | h1
    · exact ok.wd x h1
    · simp only [List.mem_singleton] at h1; subst h1; exact hw
  ar x hx := by
    rcases List.mem_append.1 hx with h1 | h1
    · exact ok.ar x h1
    · simp only [List.mem_singleton] at h1; subst h1; exact ha
  inr x hx := by
    rcases List.mem_append.1 hx with h1 | h1
    · exact ok.inr x h1
    · simp only [List.mem_singleton] at h1; subst h1
      intro r hr
      simp [rp, he] at hr
  vl := ok.vl
  rl := by show (g.rs ++ [(p, gr)]).length ≤ _; rw [List.length_append]; simp only [List.length_cons, List.length_nil]; omega
  fl := by
    show ((g.rs ++ [(p, gr)]).map fun x => x.2.es.length).sum ≤ _
    rw [List.map_append, List.sum_append]
    have := ok.fl
    simp [he]; exact this
theorem factsB_newRel {g : BaseG} {p : Pd} {gr : RelG} (he : gr.es = []) : factsB { g with rs := g.rs ++ [(p, gr)] } = factsB g := by
  unfold factsB
  show (g.rs ++ [(p, gr)]).flatMap _ = _
  rw [List.flatMap_append]
  simp [rp, he]
theorem relOf_split {rs : List (Pd × RelG)} {p : Pd} {gr : RelG} (h : relOf rs p = some gr) : ∃ r1 r2, rs = r1 ++ (p, gr) :: r2 := List.append_of_mem (relOf_mem h)
/-- One relation has changed. -/
theorem BaseOK.setRel {g : BaseG} (ok : BaseOK g) {p : Pd} {gr gr' : RelG} {r1 r2 : List (Pd × RelG)} (hs : g.rs = r1 ++ (p, gr) :: r2) (hok : RelOK gr') (hw : gr'.width = gr.width) (hin : ∀ r ∈ (rp gr').map (·.1), inVs g.vs r) (hf : ((r1.map fun x => x.2.es.length).sum + (gr'.es.length + (r2.map fun x => x.2.es.length).sum)) ≤ 1099511627776) : BaseOK { g with rs := r1 ++ (p, gr') :: r2 } := by
  have hm : ∀ {C : Pd × RelG → Prop}, (∀ x ∈ g.rs, C x) → C (p, gr') → ∀ x ∈ r1 ++ (p, gr') :: r2, C x := by
    intro C h1 h2 x hx
    rcases List.mem_append.1 hx with h | h
    · exact h1 x (by rw [hs]; exact List.mem_append_left _ h)
    · rcases List.mem_cons.1 h with rfl | h
      · exact h2
      · exact h1 x (by rw [hs]; exact List.mem_append_right _ (.tail _ h))
  have hmem : (p, gr) ∈ g.rs := by rw [hs]; exact List.mem_append_right _ (.head _)
  refine ⟨ok.nb, ok.vn, ?_, hm ok.ok hok, hm ok.wd (show gr'.width = p.ar + 1 by rw [hw]; exact ok.wd _ hmem), hm ok.ar (show p.ar ≤ 8 from ok.ar _ hmem), hm ok.inr (fun r hr k hk => hin r hr k hk), ok.vl, ?_, ?_⟩
  · have := ok.rn
    rw [hs] at this
    simpa using this
  · have := ok.rl
    rw [hs] at this
    simpa using this
  · show ((r1 ++ (p, gr') :: r2).map _).sum ≤ _
    simpa using hf
theorem factsB_set {g : BaseG} {p : Pd} {gr gr' : RelG} {r1 r2 : List (Pd × RelG)} (hs : g.rs = r1 ++ (p, gr) :: r2) {E : List (At × Nat)} (he : ((rp gr').map fun q => (atomOf g.vs p q.1, q.2)) = ((rp gr).map fun q => (atomOf g.vs p q.1, q.2)) ++ E) : (factsB { g with rs := r1 ++ (p, gr') :: r2 }).Perm (factsB g ++ E) := by
  unfold factsB
  rw [hs]
  show ((r1 ++ (p, gr') :: r2).flatMap _).Perm _
  rw [List.flatMap_append, List.flatMap_cons, List.flatMap_append, List.flatMap_cons]
  simp only [he]
  rw [List.append_assoc, List.append_assoc, List.append_assoc]
  exact List.Perm.append_left _ (List.Perm.append_left _ List.perm_append_comm)

end Go.Proofs.YtgiiifadbnpfkaaGreatDoor
