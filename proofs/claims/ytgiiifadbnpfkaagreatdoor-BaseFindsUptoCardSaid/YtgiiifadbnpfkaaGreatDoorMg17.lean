/- Contracts of functions of the program: what each returns and leaves in memory. Printed by gen.py and walk.py. The library's sorts of structs lie in the loaded program as on the kit's shelf. -/
import Derived.Test.YtgiiifadbnpfkaaGreatDoorMg16
import Derived.Test.YtgiiifadbnpfkaaGreatDoorProg
import Derived.Test.YtgiiifadbnpfkaaGreatDoorMg13
namespace Go.Proofs.YtgiiifadbnpfkaaGreatDoor
open Go Go.Hw
set_option linter.unusedSimpArgs false
set_option linter.unusedVariables false
theorem NoneAt.satA {w w' : World} {A ow : List Hw.Item} (h : NoneAt w) (hn : ¬ DD A 1) (hw : Sat w (DD A) (fun b => b < w.heap.size ∧ ¬ DD A b) w ow w') : NoneAt w' := by
  intro j v hj
  have h1 := h j v hj
  have hlt : 1 < w.heap.size := World.block_lt_of_cell? w ⟨1, j, none⟩ h1
  have h2 := hw.fr.keep 1 hlt hn
  unfold World.cell? at h1 ⊢
  rw [h2]; exact h1
theorem RT.lt {w : World} {a : Option Addr} {ts : List Tm} (h : RT w a ts) {q : Addr} (hq : a = some q) (hl : 0 < ts.length) : q.block < w.heap.size := by
  have h1 := h.at_ q hq 0 _ (List.getElem?_eq_getElem hl) 0 _ rfl
  have h2 := World.block_lt_of_cell? w _ h1
  rwa [add_block, add_block] at h2
theorem RT.satA {w w' : World} {A ow : List Hw.Item} {a : Option Addr} {ts : List Tm} (h : RT w a ts) (hne : ∀ q, a = some q → 0 < ts.length → ¬ DD A q.block) (hw : Sat w (DD A) (fun b => b < w.heap.size ∧ ¬ DD A b) w ow w') : RT w' a ts := by
  refine ⟨h.nil, fun q hq i t ht j v hv => ?_⟩
  have hl : 0 < ts.length := by have := (List.getElem?_eq_some_iff.1 ht).1; omega
  have h1 := h.at_ q hq i t ht j v hv
  have h2 := hw.fr.keep q.block (h.lt hq hl) (hne q hq hl)
  unfold World.cell? at h1 ⊢
  rw [add_block, add_block] at h1 ⊢
  rw [h2]; exact h1
theorem fact_args {x : At} (h : factB x = true) : x.args.length ≤ 8 := by
  unfold factB chkA at h
  rcases Nat.lt_or_ge 8 x.args.length with h8 | h8
  · simp [h8] at h
    split at h <;> simp at h
  · exact h8
theorem numOf_pre {vs vs' : List Tm} (h : vs <+: vs') {t : Tm} {n : Nat} (hn : numOf vs t = some n) : numOf vs' t = some n := by
  obtain ⟨m, rfl⟩ := h
  unfold numOf at *
  rw [List.findIdx?_append, hn]
  rfl
theorem rowOf_pre {vs vs' : List Tm} (h : vs <+: vs') : ∀ {ts : List Tm} {l : List Int}, rowOf vs ts = some l → rowOf vs' ts = some l
  | [], l, hl => hl
  | t :: ts, l, hl => by
    obtain ⟨n, m, h1, h2, rfl⟩ := rowOf_cons.1 hl
    exact rowOf_cons.2 ⟨n, m, numOf_pre h h1, rowOf_pre h h2, rfl⟩
theorem relsA_snoc (rs : List (Pd × RelG)) (p : Pd) (gr : RelG) : relsA (rs ++ [(p, gr)]) = relsA rs ++ relA gr := by simp [relsA]
theorem relsA_mid (r1 r2 : List (Pd × RelG)) (p : Pd) (gr : RelG) : relsA (r1 ++ (p, gr) :: r2) = relsA r1 ++ (relA gr ++ relsA r2) := by simp [relsA]
theorem factsB_len (g : BaseG) : (factsB g).length = (g.rs.map fun x => x.2.es.length).sum := by
  unfold factsB
  rw [List.length_flatMap]
  congr 1
  exact List.map_congr_left fun x _ => by simp [rp_len]
theorem inVs_i64 {vs : List Tm} {l : List Int} (h : inVs vs l) (hv : vs.length ≤ 1099511627776) : i64s l := fun k hk => by have := h k hk; constructor <;> omega
/-- The base after numbers have been given. -/
abbrev withVs (g : BaseG) (nb : Option Nat) (va : Option Addr) (vc : Nat) (vs : List Tm) : BaseG := { g with nb := nb, va := va, vc := vc, vs := vs }
theorem num_ok {g : BaseG} (ok : BaseOK g) {t : Tm} {nb va vc} (h0 : nb = none → numX g.vs t = []) (hl : g.vs.length < 1099511627776) : BaseOK (withVs g nb va vc (numX g.vs t)) :=
  ok.vals (numX_pre _ _) h0 (numX_nodup ok.vn) (by have := numX_len g.vs t; omega)
/-- What Add leaves, told plainly. -/
theorem add_plain {g g2 : BaseG} (ok2 : BaseOK g2) (hf : factsB g2 = factsB g) {x : At} (hx : factB x = true) {l : List Int} (hl : rowOf g2.vs (tsOf x) = some l) {gr gr' : RelG} {r1 r2 : List (Pd × RelG)} (hs : g2.rs = r1 ++ (predOf x, gr) :: r2) (hrp : rp gr' = addRP gr.width (rp gr) l) (hok : RelOK gr') (hw : gr'.width = gr.width) (hfl : (factsB g).length < 1099511627776) :
    addV gr.width (rp gr) l = decide (x ∉ (factsB g).map (·.1)) ∧ addE gr.width l = 0 ∧ BaseOK { g2 with rs := r1 ++ (predOf x, gr') :: r2 } ∧ (factsB { g2 with rs := r1 ++ (predOf x, gr') :: r2 }).Perm (addF (factsB g) x) := by
  have hmem : (predOf x, gr) ∈ g2.rs := by rw [hs]; exact List.mem_append_right _ (.head _)
  have hwd := ok2.wd _ hmem
  have hlen := rowOf_len hl
  have hlw : l.length = gr.width := by rw [hlen, hwd]; rfl
  have hrel := relOf_of ok2.rn hmem
  have hiff : x ∈ (factsB g).map (·.1) ↔ l ∈ (rp gr).map (·.1) := by
    rw [← hf, mem_facts1 ok2]
    constructor
    · rintro ⟨gr0, l0, h1, h2, h3⟩
      rw [hrel] at h1; rw [hl] at h2
      cases h1; cases h2; exact h3
    · intro h; exact ⟨gr, l, hrel, hl, h⟩
  have hin : inVs g2.vs l := rowOf_in hl
  have hfl2 := factsB_len g2
  rw [hf, hs] at hfl2
  simp only [List.map_append, List.map_cons, List.sum_append, List.sum_cons] at hfl2
  have hel : gr'.es.length ≤ gr.es.length + 1 := by
    have h1 := congrArg List.length hrp
    rw [rp_len] at h1
    have h2 : (addRP gr.width (rp gr) l).length ≤ (rp gr).length + 1 := by unfold addRP; split <;> simp
    rw [rp_len] at h2; omega
  refine ⟨?_, by unfold addE; rw [if_pos hlw], ok2.setRel hs hok hw ?_ (by omega), ?_⟩
  · unfold addV
    by_cases h : l ∈ (rp gr).map (·.1)
    · rw [decide_eq_false (show ¬ (l.length = gr.width ∧ l ∉ (rp gr).map (·.1)) from fun hh => hh.2 h), decide_eq_false (show ¬ x ∉ (factsB g).map (·.1) from fun hh => hh (hiff.2 h))]
    · rw [decide_eq_true (show l.length = gr.width ∧ l ∉ (rp gr).map (·.1) from ⟨hlw, h⟩), decide_eq_true (show x ∉ (factsB g).map (·.1) from fun hh => h (hiff.1 hh))]
  · intro r hr
    rw [hrp] at hr
    unfold addRP at hr
    split at hr
    · rw [List.map_append] at hr
      rcases List.mem_append.1 hr with h | h
      · exact fun k hk => ok2.inr _ hmem r h k hk
      · simp only [List.map_cons, List.map_nil, List.mem_singleton] at h; subst h; exact hin
    · exact fun k hk => ok2.inr _ hmem r hr k hk
  · unfold addF
    by_cases h : l ∈ (rp gr).map (·.1)
    · rw [if_neg (fun hh => hh.2 (hiff.2 h))]
      have := factsB_set (gr' := gr') hs (E := []) (by rw [hrp]; unfold addRP; rw [if_neg (fun hh => hh.2 h), List.append_nil])
      rw [List.append_nil, hf] at this; exact this
    · rw [if_pos ⟨hx, fun hh => h (hiff.1 hh)⟩]
      have := factsB_set (gr' := gr') hs (E := [(x, 4)]) (by rw [hrp]; unfold addRP; rw [if_pos ⟨hlw, h⟩, List.map_append, List.map_cons, List.map_nil, atomOf_row hl])
      rw [hf] at this; exact this

set_option maxRecDepth 10000 in
set_option maxHeartbeats 2000000 in
theorem badd_calls (g : BaseG) (ok : BaseOK g) (x : At) (a : Option Addr) (c : Nat) (hl : x.args.length ≤ 1099511627775) (hs : x.name.size ≤ 1099511627776) (hvl : g.vs.length + 9 ≤ 1099511627776) (hrl : g.rs.length < 1099511627776) (hfl : (factsB g).length < 1099511627776) (w : World) (hN : NoneAt w) (hN1 : ¬ DD (baseA g) 1) (hr : RT w a x.args) (hne : ∀ q, a = some q → 0 < x.args.length → ¬ DD (baseA g) q.block) (hA : Holds (baseA g) w) :
  Calls Tryz.prog 24 #[ptr g.p, atV x a c] w fun e w' => e = .returned (.tuple #[.bool (factB x && decide (x ∉ (factsB g).map (·.1))), .int .i64 (if factB x = true then 0 else 81)]) ∧ ∃ g', BaseOK g' ∧ g'.p = g.p ∧ (factsB g').Perm (addF (factsB g) x) ∧ g'.vs.length ≤ g.vs.length + 9 ∧ g'.rs.length ≤ g.rs.length + 1 ∧ Turns (baseA g) (baseA g') w w' := by
  refine enterA hA (args := [ptr g.p, atV x a c]) Tryz.func24 rfl Tryz.ntmps24 rfl rfl ?_
  refine WC.seq ?_
  refine WC.region ?_
  refine WL.box rfl rfl rfl ?_
  intro b3
  refine WL.val (OV.assign rfl) rfl ?_
  refine WL.val (OV.assign rfl) rfl ?_
  refine WL.nil ?_
  refine WX.next ?_
  refine WC.seq ?_
  refine WC.seq ?_
  refine WC.region ?_
  refine WL.val (OV.loadN (cs := atC x a c) rfl T.u34 rfl T.z34 (fun _ hw j v hj => by rw [add_off, Nat.zero_add]; exact own_cells hw (.head _) j v hj)) rfl ?_
  refine WL.call0 (v := .bool (factB x)) (by kernel_rfl) rfl rfl (fun w' hw' => fact_calls x a c (by omega) hs w' (hN.satA hN1 hw') (hr.satA hne hw')) ?_
  refine WL.val (OV.not rfl) rfl ?_
  refine WL.nil ?_
  refine WX.next ?_
  refine WC.cond rfl (fun c14 => ?_) (fun c14 => ?_)
  · try simp only [decide_eq_true_eq, decide_eq_false_iff_not, Bool.not_eq_true', Bool.not_eq_false'] at c14
    refine WC.seq ?_
    refine WC.region ?_
    refine WL.val (OV.assign rfl) rfl ?_
    refine WL.val (OV.assign rfl) rfl ?_
    refine WL.nil ?_
    refine WX.next ?_
    refine WC.ret ?_
    refine WX.then_ret ?_
    have hf0 : factB x = false := by simpa using c14
    exact WX.ret2 rfl rfl rfl rfl (fun w' hw => ⟨by rw [hf0]; rfl, g, ok, rfl, by unfold addF; rw [if_neg (by rw [hf0]; simp)], by omega, by omega, hw.drop.turned⟩)
  · try simp only [decide_eq_true_eq, decide_eq_false_iff_not, Bool.not_eq_true', Bool.not_eq_false'] at c14
    refine WC.skip ?_
    refine WX.next ?_
    refine WC.seq ?_
    have hx8 := fact_args (by simpa using c14 : factB x = true)
    have hxf : factB x = true := by simpa using c14
    refine WC.drawn (fun w' => w'.heap[g.p]? = some (.cells (baseC g).toArray 84 (0, 0)) ∧ w'.heap[g.rb]? = some (mapK pdV (relKV g.rs)) ∧ w'.heap[b3]? = some (.cells (atC x a c).toArray 34 (0, 0))) [] (by kernel_rfl) (by kernel_rfl) (m := 8) rfl ?_
    refine WH.free 0 rfl (by kernel_rfl) (by kernel_rfl) (by kernel_rfl) rfl (fun _ => (fun _ hw => ⟨hw.it (hdB g) (.tail _ (.head _)), hw.it (rbA g) (.tail _ (List.mem_append_right _ (.head _))), hw.it (own b3 _) (.head _)⟩)) (OV.move rfl) rfl (listed' := [true, false, false, false, false, false, false, false]) rfl ?_
    refine WH.free 1 rfl (by kernel_rfl) (by kernel_rfl) (by kernel_rfl) rfl (fun _ => (fun _ hw => ⟨hw.it (hdB g) (.tail _ (.head _)), hw.it (rbA g) (.tail _ (List.mem_append_right _ (.head _))), hw.it (own b3 _) (.head _)⟩)) (OV.nilCheck rfl) rfl (listed' := [true, true, false, false, false, false, false, false]) rfl ?_
    first
    | (refine WH.free 2 rfl (by kernel_rfl) (by kernel_rfl) (by kernel_rfl) rfl (fun _ => (fun _ hw => ⟨hw.it (hdB g) (.tail _ (.head _)), hw.it (rbA g) (.tail _ (List.mem_append_right _ (.head _))), hw.it (own b3 _) (.head _)⟩)) (OV.fieldAddr0 (off := 2) rfl T.u84 rfl) rfl (listed' := [true, true, true, false, false, false, false, false]) rfl ?_)
    | (refine WH.free 2 rfl (by kernel_rfl) (by kernel_rfl) (by kernel_rfl) rfl (fun _ => (fun _ hw => ⟨hw.it (hdB g) (.tail _ (.head _)), hw.it (rbA g) (.tail _ (List.mem_append_right _ (.head _))), hw.it (own b3 _) (.head _)⟩)) (OV.fieldAddr (off := 2) rfl T.u84 rfl) rfl (listed' := [true, true, true, false, false, false, false, false]) rfl ?_)
    refine WH.take 3 rfl (by kernel_rfl) (by kernel_rfl) (by kernel_rfl) (by kernel_rfl) (fun _ hw => ⟨hw.it (hdB g) (.tail _ (.head _)), hw.it (rbA g) (.tail _ (List.mem_append_right _ (.head _))), hw.it (own b3 _) (.head _)⟩) (OV.load1 (v := .map (some g.rb)) rfl T.u82 rfl (fun _ hw => (cell_at hw.1 (o := 2) rfl).1)) rfl (listed' := [true, true, true, true, false, false, false, false]) rfl ?_
    refine WH.take 4 rfl (by kernel_rfl) (by kernel_rfl) (by kernel_rfl) (by kernel_rfl) (fun _ hw => ⟨hw.it (hdB g) (.tail _ (.head _)), hw.it (rbA g) (.tail _ (List.mem_append_right _ (.head _))), hw.it (own b3 _) (.head _)⟩) (OV.loadN (cs := atC x a c) rfl T.u34 rfl T.z34 (fun _ hw j v hj => by rw [add_off]; exact heap_part hw.2.2 (o := 0) (cs' := atC x a c) rfl j v hj)) rfl (listed' := [true, true, true, true, true, false, false, false]) rfl ?_
    refine WH.only 5 rfl (by kernel_rfl) (listed' := [true, true, true, true, true, true, false, false]) rfl (fl' := false) rfl ?_
    refine WL.call0 (v := pdV (predOf x)) (by kernel_rfl) rfl rfl (fun w' hw' => pred_calls x a c w') ?_
    refine WL.nil ?_
    refine WX.contD (by kernel_rfl) (fun _ => (fun _ hw => ⟨hw.it (hdB g) (.tail _ (.head _)), hw.it (rbA g) (.tail _ (List.mem_append_right _ (.head _))), hw.it (own b3 _) (.head _)⟩)) ?_
    refine WH.take 6 rfl (by kernel_rfl) (by kernel_rfl) (by kernel_rfl) (by kernel_rfl) (fun _ hw => ⟨hw.it (hdB g) (.tail _ (.head _)), hw.it (rbA g) (.tail _ (List.mem_append_right _ (.head _))), hw.it (own b3 _) (.head _)⟩) ((OV.lookup pdKey T.u82 (show Program.zv Tryz.prog 85 = some (.pointer none) by kernel_rfl) rfl rfl (fun _ hw => hw.2.1)).cast (u := .pointer ((relOf g.rs (predOf x)).map fun z => ⟨z.r, 0, none⟩)) (by rw [relKV_got]; cases relOf g.rs (predOf x) <;> rfl)) rfl (listed' := [true, true, true, true, true, true, true, false]) rfl ?_
    refine WH.free 7 rfl (by kernel_rfl) (by kernel_rfl) (by kernel_rfl) rfl (fun _ => (fun _ hw => ⟨hw.it (hdB g) (.tail _ (.head _)), hw.it (rbA g) (.tail _ (List.mem_append_right _ (.head _))), hw.it (own b3 _) (.head _)⟩)) (OV.assign rfl) rfl (listed' := [true, true, true, true, true, true, true, true]) rfl ?_
    refine WH.done (by kernel_rfl) ?_
    refine WX.next ?_
    refine WC.seq ?_
    refine WC.seq ?_
    refine WC.region ?_
    refine WL.val (OV.move rfl) rfl ?_
    refine WL.val (OV.eqlPN T.u85 rfl rfl) rfl ?_
    refine WL.nil ?_
    refine WX.next ?_
    refine WC.cond rfl (fun c23 => ?_) (fun c23 => ?_)
    · try simp only [decide_eq_true_eq, decide_eq_false_iff_not, Bool.not_eq_true', Bool.not_eq_false'] at c23
      refine WC.seq ?_
      have hnone : relOf g.rs (predOf x) = none := by simpa using c23
      refine WC.region ?_
      first
      | (refine WL.val (OV.fieldAddr0 (off := 4) rfl T.u34 rfl) rfl ?_)
      | (refine WL.val (OV.fieldAddr (off := 4) rfl T.u34 rfl) rfl ?_)
      refine WL.val (OV.load1 (v := .slice a x.args.length c) rfl T.u32 rfl (fun _ hw => (cell_at (hw.it _ (.head _)) (o := 4) rfl).1)) rfl ?_
      first
      | (refine WL.val (OV.lenSlice rfl T.u32) rfl ?_)
      | (refine WL.val (OV.lenStr rfl T.u32) rfl ?_)
      refine WL.val (OV.addN (j := 1) rfl rfl (by omega)) rfl ?_
      refine WL.callTA (ι := Nat × Nat × Nat) (vs := [.int .i64 ((x.args.length + 1 : Nat) : Int)]) (vv := fun z => .tuple #[ptr z.1, .int .i64 0]) (pp := fun _ => True) [] (AA := fun z => relA (RelG.empty z.1 z.2.1 z.2.2 (x.args.length + 1))) rfl (by kernel_rfl) rfl rfl (fun w' hw' hH => (new_calls (x.args.length + 1) w').mono (fun en w'' ⟨r, mb, ib, h1, h2⟩ => ⟨(r, mb, ib), h1, trivial, h2⟩)) ?_
      rintro ⟨r, mb, ib⟩ _
      obtain ⟨gn, hgn⟩ : ∃ gn, gn = RelG.empty r mb ib (x.args.length + 1) := ⟨_, rfl⟩
      have hgr : ptr r = ptr gn.r := by rw [hgn]; rfl
      have hgo : RelOK gn := by rw [hgn]; exact RelOK.empty (by omega)
      have hgw : gn.width = (predOf x).ar + 1 := by rw [hgn]; rfl
      have hge : gn.es = [] := by rw [hgn]; rfl
      show WL _ _ _ _ _ _ (Sat w (DD (baseA g)) (fun b => b < w.heap.size ∧ ¬ DD (baseA g) b) w (relA (RelG.empty r mb ib (x.args.length + 1)) ++ (own b3 (.cells (atC x a c).toArray 34 (0, 0)) :: baseA g))) _
      rw [← hgn]
      refine WL.focus (ow' := [own b3 (.cells (atC x a c).toArray 34 (0, 0))] ++ (tabA g ++ ([rbA g] ++ (relsA g.rs ++ (relA gn))))) (perm_cat [relA gn, [own b3 (.cells (atC x a c).toArray 34 (0, 0))], tabA g, [rbA g], relsA g.rs] [1, 2, 3, 4, 0] (by decide) rfl) ?_
      refine WL.val (OV.move rfl) rfl ?_
      refine WL.val (OV.extract rfl rfl) rfl ?_
      refine WL.val (OV.extract rfl rfl) rfl ?_
      refine WL.val (OV.assign rfl) rfl ?_
      refine WL.val (OV.assign rfl) rfl ?_
      refine WL.nil ?_
      refine WX.next ?_
      refine WC.seq ?_
      refine WC.seq ?_
      refine WC.region ?_
      refine WL.val (OV.move rfl) rfl ?_
      refine WL.val (OV.neq rfl rfl) rfl ?_
      refine WL.nil ?_
      refine WX.next ?_
      refine WC.condF (show _ = some (Value.bool false) from by rfl) ?_
      refine WC.skip ?_
      refine WX.next ?_
      refine WC.seq ?_
      refine WC.region ?_
      refine WL.val (OV.move rfl) rfl ?_
      refine WL.val (OV.assign rfl) rfl ?_
      refine WL.nil ?_
      refine WX.next ?_
      refine WC.drawn (fun w' => w'.heap[g.p]? = some (.cells (baseC g).toArray 84 (0, 0)) ∧ w'.heap[b3]? = some (.cells (atC x a c).toArray 34 (0, 0))) [] (by kernel_rfl) (by kernel_rfl) (m := 8) rfl ?_
      refine WH.free 0 rfl (by kernel_rfl) (by kernel_rfl) (by kernel_rfl) rfl (fun _ => (fun _ hw => ⟨hw.it (hdB g) (by simp [tabA]), hw.it (own b3 _) (by simp)⟩)) (OV.move rfl) rfl (listed' := [true, false, false, false, false, false, false, false]) rfl ?_
      refine WH.free 1 rfl (by kernel_rfl) (by kernel_rfl) (by kernel_rfl) rfl (fun _ => (fun _ hw => ⟨hw.it (hdB g) (by simp [tabA]), hw.it (own b3 _) (by simp)⟩)) (OV.nilCheck rfl) rfl (listed' := [true, true, false, false, false, false, false, false]) rfl ?_
      first
      | (refine WH.free 2 rfl (by kernel_rfl) (by kernel_rfl) (by kernel_rfl) rfl (fun _ => (fun _ hw => ⟨hw.it (hdB g) (by simp [tabA]), hw.it (own b3 _) (by simp)⟩)) (OV.fieldAddr0 (off := 2) rfl T.u84 rfl) rfl (listed' := [true, true, true, false, false, false, false, false]) rfl ?_)
      | (refine WH.free 2 rfl (by kernel_rfl) (by kernel_rfl) (by kernel_rfl) rfl (fun _ => (fun _ hw => ⟨hw.it (hdB g) (by simp [tabA]), hw.it (own b3 _) (by simp)⟩)) (OV.fieldAddr (off := 2) rfl T.u84 rfl) rfl (listed' := [true, true, true, false, false, false, false, false]) rfl ?_)
      refine WH.take 3 rfl (by kernel_rfl) (by kernel_rfl) (by kernel_rfl) (by kernel_rfl) (fun _ hw => ⟨hw.it (hdB g) (by simp [tabA]), hw.it (own b3 _) (by simp)⟩) (OV.load1 (v := .map (some g.rb)) rfl T.u82 rfl (fun _ hw => (cell_at hw.1 (o := 2) rfl).1)) rfl (listed' := [true, true, true, true, false, false, false, false]) rfl ?_
      refine WH.take 4 rfl (by kernel_rfl) (by kernel_rfl) (by kernel_rfl) (by kernel_rfl) (fun _ hw => ⟨hw.it (hdB g) (by simp [tabA]), hw.it (own b3 _) (by simp)⟩) (OV.loadN (cs := atC x a c) rfl T.u34 rfl T.z34 (fun _ hw j v hj => by rw [add_off]; exact heap_part hw.2 (o := 0) (cs' := atC x a c) rfl j v hj)) rfl (listed' := [true, true, true, true, true, false, false, false]) rfl ?_
      refine WH.free 6 rfl (by kernel_rfl) (by kernel_rfl) (by kernel_rfl) rfl (fun _ => (fun _ hw => ⟨hw.it (hdB g) (by simp [tabA]), hw.it (own b3 _) (by simp)⟩)) (OV.move rfl) rfl (listed' := [true, true, true, true, true, false, true, false]) rfl ?_
      refine WH.only 5 rfl (by kernel_rfl) (listed' := [true, true, true, true, true, true, true, false]) rfl (fl' := false) rfl ?_
      refine WL.call0 (v := pdV (predOf x)) (by kernel_rfl) rfl rfl (fun w' hw' => pred_calls x a c w') ?_
      refine WL.nil ?_
      refine WX.contD (by kernel_rfl) (fun _ => (fun _ hw => ⟨hw.it (hdB g) (by simp [tabA]), hw.it (own b3 _) (by simp)⟩)) ?_
      refine WH.only 7 rfl (by kernel_rfl) (listed' := [true, true, true, true, true, true, true, true]) rfl (fl' := false) rfl ?_
      refine WL.focus (ow' := [rbA g] ++ ([own b3 (.cells (atC x a c).toArray 34 (0, 0))] ++ (tabA g ++ (relsA g.rs ++ (relA gn))))) (perm_cat [[own b3 (.cells (atC x a c).toArray 34 (0, 0))], tabA g, [rbA g], relsA g.rs, relA gn] [2, 0, 1, 3, 4] (by decide) rfl) ?_
      refine WL.mapUpdate (v := ptr gn.r) pdKey T.u82 rfl rfl (by rw [← hgr]; rfl) ?_
      rw [relKV_new hnone]
      refine WL.focus (ow' := [own b3 (.cells (atC x a c).toArray 34 (0, 0))] ++ (tabA g ++ ([own g.rb (mapK pdV (relKV (g.rs ++ [(predOf x, gn)])))] ++ (relsA g.rs ++ (relA gn))))) (perm_cat [[own g.rb (mapK pdV (relKV (g.rs ++ [(predOf x, gn)])))], [own b3 (.cells (atC x a c).toArray 34 (0, 0))], tabA g, relsA g.rs, relA gn] [1, 2, 0, 3, 4] (by decide) rfl) ?_
      refine WL.nil ?_
      refine WX.contD (by kernel_rfl) (fun _ => (fun _ hw => ⟨hw.it (hdB g) (by simp [tabA]), hw.it (own b3 _) (by simp)⟩)) ?_
      refine WH.done (by kernel_rfl) ?_
      refine WX.next ?_
      refine WC.seq ?_
      obtain ⟨g1, hg1⟩ : ∃ g1 : BaseG, g1 = { g with rs := g.rs ++ [(predOf x, gn)] } := ⟨_, rfl⟩
      obtain ⟨gr, hgrn⟩ : ∃ gr, gr = gn := ⟨_, rfl⟩
      have hp1 : g1.p = g.p := by rw [hg1]
      have hv1 : g1.vs = g.vs := by rw [hg1]
      have ok1 : BaseOK g1 := by rw [hg1]; exact ok.newRel hnone hgo hgw (by show x.args.length ≤ 8; exact hx8) hge hrl
      have hf1 : factsB g1 = factsB g := by rw [hg1]; exact factsB_newRel hge
      have hrel : relOf g1.rs (predOf x) = some gr := by rw [hgrn]; exact relOf_of ok1.rn (by rw [hg1]; exact List.mem_append_right _ (.head _))
      have hr1 : g1.rs.length ≤ g.rs.length + 1 := by rw [hg1]; simp
      refine WC.weak (S' := Sat w (DD (baseA g)) (fun b => b < w.heap.size ∧ ¬ DD (baseA g) b) w (own b3 (.cells (atC x a c).toArray 34 (0, 0)) :: baseA g1)) (fun w' hw => hw.perm (List.Perm.of_eq (by rw [hg1]; unfold baseA rbA; simp only [relsA_snoc]; rfl))) ?_
      refine WC.sub (e' := [(0, ptr g1.p), (3, .pointer (some ⟨b3, 0, none⟩)), (6, ptr gr.r)]) ⟨by rw [hp1]; rfl, rfl, by rw [hgrn, ← hgr]; rfl, trivial⟩ ?_
      refine WC.selfB [5] (by kernel_rfl) (by kernel_rfl) (m := 8) rfl ?_
      refine WH.free 0 rfl (by kernel_rfl) (by kernel_rfl) (by kernel_rfl) rfl (fun _ => (fun _ h => h)) (OV.move rfl) rfl (listed' := [true, false, false, false, false, false, false, false]) rfl ?_
      refine WH.free 1 rfl (by kernel_rfl) (by kernel_rfl) (by kernel_rfl) rfl (fun _ => (fun _ h => h)) (OV.nilCheck rfl) rfl (listed' := [true, true, false, false, false, false, false, false]) rfl ?_
      first
      | (refine WH.free 2 rfl (by kernel_rfl) (by kernel_rfl) (by kernel_rfl) rfl (fun _ => (fun _ h => h)) (OV.fieldAddr0 (off := 0) rfl T.u84 rfl) rfl (listed' := [true, true, true, false, false, false, false, false]) rfl ?_)
      | (refine WH.free 2 rfl (by kernel_rfl) (by kernel_rfl) (by kernel_rfl) rfl (fun _ => (fun _ h => h)) (OV.fieldAddr (off := 0) rfl T.u84 rfl) rfl (listed' := [true, true, true, false, false, false, false, false]) rfl ?_)
      first
      | (refine WH.free 3 rfl (by kernel_rfl) (by kernel_rfl) (by kernel_rfl) rfl (fun _ => (fun _ h => h)) (OV.fieldAddr0 (off := 0) rfl T.u34 rfl) rfl (listed' := [true, true, true, true, false, false, false, false]) rfl ?_)
      | (refine WH.free 3 rfl (by kernel_rfl) (by kernel_rfl) (by kernel_rfl) rfl (fun _ => (fun _ h => h)) (OV.fieldAddr (off := 0) rfl T.u34 rfl) rfl (listed' := [true, true, true, true, false, false, false, false]) rfl ?_)
      refine WH.take 4 rfl (by kernel_rfl) (by kernel_rfl) (by kernel_rfl) (by kernel_rfl) (fun _ h => h) (OV.loadN (cs := tmC x.b) rfl T.u31 rfl T.z31 (fun _ hw j v hj => by rw [add_off]; exact own_part hw (.head _) (o := 0) (cs' := tmC x.b) rfl j v hj)) rfl (listed' := [true, true, true, true, true, false, false, false]) rfl ?_
      refine WH.only 5 rfl (by kernel_rfl) (listed' := [true, true, true, true, true, true, false, false]) rfl (fl' := true) rfl ?_
      refine WL.focus (ow' := tabA g1 ++ ((rbA g1 :: relsA g1.rs) ++ ([own b3 (.cells (atC x a c).toArray 34 (0, 0))]))) (perm_cat [[own b3 (.cells (atC x a c).toArray 34 (0, 0))], tabA g1, (rbA g1 :: relsA g1.rs)] [1, 2, 0] (by decide) rfl) ?_
      refine WL.callTA (ι := Nat × Option Nat × Option Addr × Nat) (vs := [ptr g1.p, tmV x.b]) (vv := fun z => .int .i64 ((z.1 : Nat) : Int)) (pp := fun z => numOf (numX g1.vs x.b) x.b = some z.1 ∧ (z.2.1 = none → numX g1.vs x.b = [])) (tabA g1) (AA := fun z => tabA (withVs g1 z.2.1 z.2.2.1 z.2.2.2 (numX g1.vs x.b))) rfl (by kernel_rfl) rfl rfl (fun w' hw' hH => (number_calls g1 ok1.nb ok1.vn ok1.vl x.b w' hH).mono (fun en w'' ⟨i, nb, va, vc, h1, h2, h3, h4⟩ => ⟨(i, nb, va, vc), h1, ⟨h2, h3⟩, h4⟩)) ?_
      rintro ⟨k48, nb48, va48, vc48⟩ hpp
      obtain ⟨hk48, hnb48⟩ : numOf (numX g1.vs x.b) x.b = some k48 ∧ (nb48 = none → numX g1.vs x.b = []) := hpp
      refine WL.nil ?_
      refine WX.contD (by kernel_rfl) (fun h => by cases h) ?_
      refine WH.only 6 rfl (by kernel_rfl) (listed' := [true, true, true, true, true, true, true, false]) rfl (fl' := true) rfl ?_
      refine WL.buildSlice1 (v := .int .i64 ((k48 : Nat) : Int)) T.u74 T.z3 T.zr3 rfl rfl rfl ?_
      intro b49
      refine WL.nil ?_
      refine WX.contD (by kernel_rfl) (fun h => by cases h) ?_
      refine WH.free 7 rfl (by kernel_rfl) (by kernel_rfl) (by kernel_rfl) rfl (fun h => by cases h) (OV.assign rfl) rfl (listed' := [true, true, true, true, true, true, true, true]) rfl ?_
      refine WH.done (by kernel_rfl) ?_
      refine WX.next ?_
      refine WC.seq ?_
      refine WC.seq ?_
      have hxb : rowOf (numX g1.vs x.b) [x.b] = some [(k48 : Int)] := by rw [rowOf, hk48]; rfl
      have ok3 := num_ok ok1 (va := va48) (vc := vc48) hnb48 (by rw [hv1]; omega)
      refine WC.weak (S' := Sat w (DD (baseA g)) (fun b => b < w.heap.size ∧ ¬ DD (baseA g) b) w (row 3 1 (some ⟨b49, 0, none⟩) 1 1 [.int .i64 ((k48 : Nat) : Int)] :: own b3 (.cells (atC x a c).toArray 34 (0, 0)) :: baseA (withVs g1 nb48 va48 vc48 (numX g1.vs x.b)))) (fun w' hw => by
        have h2 := hw.asRow (m := 1) (k := 1) rfl (by decide)
        exact h2.pick [[row 3 1 (some ⟨b49, 0, none⟩) 1 1 [.int .i64 ((k48 : Nat) : Int)]], tabA (withVs g1 nb48 va48 vc48 (numX g1.vs x.b)), (rbA g1 :: relsA g1.rs), [own b3 (.cells (atC x a c).toArray 34 (0, 0))]] [0, 3, 1, 2] 4 rfl (by decide) (by decide)) ?_
      refine WC.region ?_
      first
      | (refine WL.val (OV.fieldAddr0 (off := 4) rfl T.u34 rfl) rfl ?_)
      | (refine WL.val (OV.fieldAddr (off := 4) rfl T.u34 rfl) rfl ?_)
      refine WL.val (OV.load1 (v := .slice a x.args.length c) rfl T.u32 rfl (fun _ hw => (cell_at (hw.it _ (.tail _ (.head _))) (o := 4) rfl).1)) rfl ?_
      first
      | (refine WL.val (OV.lenSlice rfl T.u32) rfl ?_)
      | (refine WL.val (OV.lenStr rfl T.u32) rfl ?_)
      refine WL.val (OV.move rfl) rfl ?_
      refine WL.nil ?_
      refine WX.next ?_
      refine WC.block ?_
      refine WC.loop5 (fun (i : Nat) (la : Option Addr) (lc : Nat) (l : List Int) (g2 : BaseG) => [(0, ptr g1.p), (3, .pointer (some ⟨b3, 0, none⟩)), (6, ptr gr.r), (9, .slice la l.length lc), (51, .slice a x.args.length c), (52, .int .i64 (x.args.length : Int)), (53, .int .i64 (i : Int))])
          (fun i la lc l g2 w' => (i ≤ x.args.length ∧ BaseOK g2 ∧ g2.p = g1.p ∧ g2.rs = g1.rs ∧ factsB g2 = factsB g ∧ g2.vs.length ≤ g1.vs.length + 1 + i ∧ rowOf g2.vs (x.b :: x.args.take i) = some l) ∧ Sat w (DD (baseA g)) (fun b => b < w.heap.size ∧ ¬ DD (baseA g) b) w (row 3 1 la l.length lc (ints l) :: own b3 (.cells (atC x a c).toArray 34 (0, 0)) :: baseA g2) w')
          (fun i _ _ _ _ => x.args.length - i) 0 (some ⟨b49, 0, none⟩) 1 [(k48 : Int)] (withVs g1 nb48 va48 vc48 (numX g1.vs x.b)) ⟨rfl, rfl, rfl, rfl, rfl, rfl, rfl, trivial⟩ (fun w' hw => ⟨⟨by omega, ok3, rfl, rfl, by rw [← hf1]; exact factsB_pre ok1 (numX_pre _ _), by have := numX_len g1.vs x.b; show (numX g1.vs x.b).length ≤ _; omega, hxb⟩, hw⟩) ?_
      intro i la lc l g2
      refine WC.pure (fun hi => ?_)
      obtain ⟨hi, ok2, hp2, hrs2, hf2, hvl2, hrow⟩ := hi
      have hlen2 := rowOf_len hrow
      simp only [List.length_cons, List.length_take] at hlen2
      refine WC.seq ?_
      refine WC.region ?_
      refine WL.val (OV.lss rfl rfl) rfl ?_
      refine WL.nil ?_
      refine WX.next ?_
      refine WC.seq ?_
      refine WC.cond rfl (fun c54 => ?_) (fun c54 => ?_)
      · try simp only [decide_eq_true_eq, decide_eq_false_iff_not, Bool.not_eq_true', Bool.not_eq_false'] at c54
        refine WC.skip ?_
        refine WX.next ?_
        refine WC.seq ?_
        refine WC.block ?_
        refine WC.seq ?_
        refine WC.region ?_
        obtain ⟨q1, t, ha1, ht, htm, _, _⟩ := hr.get (i := i) (by omega)
        refine WL.val ((OV.indexSlice (a := q1) (show _ = some (Value.slice (some q1) x.args.length c) by rw [← ha1]; rfl) rfl T.u32 T.z31 (by omega)).cast (u := .pointer (some (q1.add (i * 3)))) (by rw [Int.toNat_natCast])) rfl ?_
        refine WL.val (OV.loadN (cs := tmC t) rfl T.u31 rfl T.z31 (fun _ hw j v hj => (hr.satA hne hw).at_ _ ha1 i t ht j v hj)) rfl ?_
        refine WL.alloc T.zr31 rfl ?_
        intro b11
        refine WL.storeAll (vs := tmC t) rfl rfl rfl T.z31 rfl ?_
        refine WL.nil ?_
        refine WX.next ?_
        refine WC.selfB [5] (by kernel_rfl) (by kernel_rfl) (m := 9) rfl ?_
        refine WH.free 0 rfl (by kernel_rfl) (by kernel_rfl) (by kernel_rfl) rfl (fun _ => (fun _ h => h)) (OV.move rfl) rfl (listed' := [true, false, false, false, false, false, false, false, false]) rfl ?_
        refine WH.free 1 rfl (by kernel_rfl) (by kernel_rfl) (by kernel_rfl) rfl (fun _ => (fun _ h => h)) (OV.move rfl) rfl (listed' := [true, true, false, false, false, false, false, false, false]) rfl ?_
        refine WH.free 2 rfl (by kernel_rfl) (by kernel_rfl) (by kernel_rfl) rfl (fun _ => (fun _ h => h)) (OV.nilCheck rfl) rfl (listed' := [true, true, true, false, false, false, false, false, false]) rfl ?_
        first
        | (refine WH.free 3 rfl (by kernel_rfl) (by kernel_rfl) (by kernel_rfl) rfl (fun _ => (fun _ h => h)) (OV.fieldAddr0 (off := 0) rfl T.u84 rfl) rfl (listed' := [true, true, true, true, false, false, false, false, false]) rfl ?_)
        | (refine WH.free 3 rfl (by kernel_rfl) (by kernel_rfl) (by kernel_rfl) rfl (fun _ => (fun _ h => h)) (OV.fieldAddr (off := 0) rfl T.u84 rfl) rfl (listed' := [true, true, true, true, false, false, false, false, false]) rfl ?_)
        refine WH.take 4 rfl (by kernel_rfl) (by kernel_rfl) (by kernel_rfl) (by kernel_rfl) (fun _ h => h) (OV.loadN (cs := tmC t) rfl T.u31 rfl T.z31 (fun _ hw j v hj => by rw [add_off, Nat.zero_add]; exact own_cells hw (.head _) j v hj)) rfl (listed' := [true, true, true, true, true, false, false, false, false]) rfl ?_
        refine WH.only 5 rfl (by kernel_rfl) (listed' := [true, true, true, true, true, true, false, false, false]) rfl (fl' := true) rfl ?_
        refine WL.focus (ow' := tabA g2 ++ ((rbA g2 :: relsA g2.rs) ++ ([own b11 (.cells (tmC t).toArray 31 (0, 0))] ++ ([row 3 1 la l.length lc (ints l)] ++ ([own b3 (.cells (atC x a c).toArray 34 (0, 0))]))))) (perm_cat [[own b11 (.cells (tmC t).toArray 31 (0, 0))], [row 3 1 la l.length lc (ints l)], [own b3 (.cells (atC x a c).toArray 34 (0, 0))], tabA g2, (rbA g2 :: relsA g2.rs)] [3, 4, 0, 1, 2] (by decide) rfl) ?_
        refine WL.callTA (ι := Nat × Option Nat × Option Addr × Nat) (vs := [ptr g2.p, tmV t]) (vv := fun z => .int .i64 ((z.1 : Nat) : Int)) (pp := fun z => numOf (numX g2.vs t) t = some z.1 ∧ (z.2.1 = none → numX g2.vs t = [])) (tabA g2) (AA := fun z => tabA (withVs g2 z.2.1 z.2.2.1 z.2.2.2 (numX g2.vs t))) rfl (by kernel_rfl) (by rw [hp2]; rfl) rfl (fun w' hw' hH => (number_calls g2 ok2.nb ok2.vn ok2.vl t w' hH).mono (fun en w'' ⟨i, nb, va, vc, h1, h2, h3, h4⟩ => ⟨(i, nb, va, vc), h1, ⟨h2, h3⟩, h4⟩)) ?_
        rintro ⟨k62, nb62, va62, vc62⟩ hpp
        obtain ⟨hk62, hnb62⟩ : numOf (numX g2.vs t) t = some k62 ∧ (nb62 = none → numX g2.vs t = []) := hpp
        refine WL.nil ?_
        refine WX.contD (by kernel_rfl) (fun h => by cases h) ?_
        refine WH.only 6 rfl (by kernel_rfl) (listed' := [true, true, true, true, true, true, true, false, false]) rfl (fl' := true) rfl ?_
        refine WL.buildSlice1 (v := .int .i64 ((k62 : Nat) : Int)) T.u74 T.z3 T.zr3 rfl rfl rfl ?_
        intro b63
        refine WL.nil ?_
        refine WX.contD (by kernel_rfl) (fun h => by cases h) ?_
        refine WH.only 7 rfl (by kernel_rfl) (listed' := [true, true, true, true, true, true, true, true, false]) rfl (fl' := true) rfl ?_
        refine WL.focus (ow' := [row 3 1 la l.length lc (ints l)] ++ ([own b63 (.cells [Value.int .i64 ((k62 : Nat) : Int)].toArray 3 (0, 0))] ++ ([own b3 (.cells (atC x a c).toArray 34 (0, 0))] ++ (tabA (withVs g2 nb62 va62 vc62 (numX g2.vs t)) ++ ((rbA g2 :: relsA g2.rs) ++ ([own b11 (.cells (tmC t).toArray 31 (0, 0))])))))) (perm_cat [[own b63 (.cells [Value.int .i64 ((k62 : Nat) : Int)].toArray 3 (0, 0))], tabA (withVs g2 nb62 va62 vc62 (numX g2.vs t)), (rbA g2 :: relsA g2.rs), [own b11 (.cells (tmC t).toArray 31 (0, 0))], [row 3 1 la l.length lc (ints l)], [own b3 (.cells (atC x a c).toArray 34 (0, 0))]] [4, 0, 5, 1, 2, 3] (by decide) rfl) ?_
        refine WL.append (news := [.int .i64 ((k62 : Nat) : Int)]) rfl rfl T.apI (fun _ _ => own_src (.tail _ (.head _)) rfl) (ints_one [(k62 : Int)]) ⟨by omega, by unfold maxLen; omega⟩ rfl ?_
        intro a64 c64
        refine WL.nil ?_
        refine WX.contD (by kernel_rfl) (fun h => by cases h) ?_
        refine WH.free 8 rfl (by kernel_rfl) (by kernel_rfl) (by kernel_rfl) rfl (fun h => by cases h) (OV.assign rfl) rfl (listed' := [true, true, true, true, true, true, true, true, true]) rfl ?_
        refine WH.done (by kernel_rfl) ?_
        refine WX.block_normal ?_
        refine WX.next ?_
        refine WC.region ?_
        refine WL.val (OV.addN (j := 1) rfl rfl (by omega)) rfl ?_
        refine WL.val (OV.move rfl) rfl ?_
        refine WL.nil ?_
        have ok4 := num_ok ok2 (va := va62) (vc := vc62) hnb62 (by rw [hv1] at hvl2; omega)
        have el : l.length + 1 = (l ++ [(k62 : Int)]).length := by simp
        have ef : ints l ++ [.int .i64 ((k62 : Nat) : Int)] = ints (l ++ [(k62 : Int)]) := by simp [ints]
        exact WX.round5 (i + 1) a64 c64 (l ++ [(k62 : Int)]) (withVs g2 nb62 va62 vc62 (numX g2.vs t)) ⟨rfl, rfl, rfl, by rw [← el]; rfl, rfl, rfl, rfl, trivial⟩ (fun w' hw => ⟨⟨by omega, ok4, hp2, hrs2, by rw [← hf2]; exact factsB_pre ok2 (numX_pre _ _), by have := numX_len g2.vs t; show (numX g2.vs t).length ≤ _; omega, by
          show rowOf (numX g2.vs t) (x.b :: x.args.take (i + 1)) = _
          rw [List.take_add_one, ht]
          exact rowOf_snoc hk62 (ts := x.b :: x.args.take i) (rowOf_pre (numX_pre _ _) hrow)⟩, by
          rw [el, ef] at hw
          exact hw.pick [[row 3 1 a64 (l ++ [(k62 : Int)]).length c64 (ints (l ++ [(k62 : Int)]))], [own b63 (.cells [Value.int .i64 ((k62 : Nat) : Int)].toArray 3 (0, 0))], [own b3 (.cells (atC x a c).toArray 34 (0, 0))], tabA (withVs g2 nb62 va62 vc62 (numX g2.vs t)), (rbA g2 :: relsA g2.rs), [own b11 (.cells (tmC t).toArray 31 (0, 0))]] [0, 2, 3, 4] 6 rfl (by decide) (by decide)⟩) (by show x.args.length - (i + 1) < x.args.length - i; omega)
      · try simp only [decide_eq_true_eq, decide_eq_false_iff_not, Bool.not_eq_true', Bool.not_eq_false'] at c54
        refine WC.exit ?_
        refine WX.then_exit ?_
        refine WX.then_exit ?_
        refine WX.block_hit ?_
        refine WX.next ?_
        refine WC.seq ?_
        refine WC.region ?_
        refine WL.val (OV.move rfl) rfl ?_
        refine WL.val (OV.move rfl) rfl ?_
        obtain ⟨r1, r2, hs2⟩ := relOf_split (show relOf g2.rs (predOf x) = some gr by rw [hrs2]; exact hrel)
        have hmem2 : (predOf x, gr) ∈ g2.rs := by rw [hs2]; exact List.mem_append_right _ (.head _)
        have okr := ok2.ok _ hmem2
        have hrow0 : rowOf g2.vs (tsOf x) = some l := by rw [List.take_of_length_le (by omega)] at hrow; exact hrow
        have hll := rowOf_len hrow0
        have hll2 : l.length = x.args.length + 1 := hll
        have hin := rowOf_in hrow0
        have hel := factsB_len g2
        rw [hf2, hs2] at hel
        simp only [List.map_append, List.map_cons, List.sum_append, List.sum_cons] at hel
        refine WL.focus (ow' := row 3 1 la l.length lc (ints l) :: own b3 (.cells (atC x a c).toArray 34 (0, 0)) :: (tabA g2 ++ (rbA g2 :: (relsA r1 ++ (relA gr ++ relsA r2))))) (List.Perm.of_eq (by rw [← relsA_mid r1 r2 (predOf x) gr, ← hs2]; rfl)) ?_
        refine WL.focus (ow' := relA gr ++ ([row 3 1 la l.length lc (ints l), own b3 (.cells (atC x a c).toArray 34 (0, 0))] ++ (tabA g2 ++ ([rbA g2] ++ (relsA r1 ++ (relsA r2)))))) (perm_cat [[row 3 1 la l.length lc (ints l), own b3 (.cells (atC x a c).toArray 34 (0, 0))], tabA g2, [rbA g2], relsA r1, relA gr, relsA r2] [4, 0, 1, 2, 3, 5] (by decide) rfl) ?_
        refine WL.callTA (ι := RelG) (vs := [ptr gr.r, .slice la l.length lc]) (vv := fun _ => .tuple #[.bool (addV gr.width (rp gr) l), .int .i64 (addE gr.width l)]) (pp := fun q => rp q = addRP gr.width (rp gr) l ∧ RelOK q ∧ RelLe gr q) (relA gr) (AA := fun q => relA q) rfl (by kernel_rfl) rfl rfl (fun w' hw' hH => (add_calls gr okr l la l.length lc (inVs_i64 hin ok2.vl) (by omega) (by omega) w' (RI.of_row (c := lc) hw' (List.mem_append_right _ (.head _))) (fun b hb _ => Sat.sepO hw' (i := row 3 1 la l.length lc (ints l)) (.head _) ⟨b, hb, rfl⟩) hH).mono (fun en w'' ⟨h1, g', h2, h3, h4, h5⟩ => ⟨g', h1, ⟨h2, h3, h4⟩, h5⟩)) ?_
        rintro gq hpp
        obtain ⟨hrpq, okq, leq⟩ : rp gq = addRP gr.width (rp gr) l ∧ RelOK gq ∧ RelLe gr gq := hpp
        refine WL.val (OV.extract rfl rfl) rfl ?_
        refine WL.val (OV.extract rfl rfl) rfl ?_
        refine WL.val (OV.assign rfl) rfl ?_
        refine WL.val (OV.assign rfl) rfl ?_
        refine WL.nil ?_
        refine WX.next ?_
        refine WC.ret ?_
        obtain ⟨hv, he, hok, hpm⟩ := add_plain ok2 hf2 hxf hrow0 hs2 hrpq okq leq.width hfl
        refine WX.ret2 rfl rfl rfl rfl (fun w' hw => ⟨by rw [hv, he, hxf, if_pos rfl, Bool.true_and], { g2 with rs := r1 ++ (predOf x, gq) :: r2 }, hok, by show g2.p = g.p; rw [hp2, hp1], hpm, by show g2.vs.length ≤ _; rw [hv1] at hvl2; omega, by
          show (r1 ++ (predOf x, gq) :: r2).length ≤ _
          have : (r1 ++ (predOf x, gr) :: r2).length ≤ g.rs.length + 1 := by rw [← hs2, hrs2]; exact hr1
          simpa using this, ?_⟩)
        have hkv : relKV g2.rs = relKV (r1 ++ (predOf x, gq) :: r2) := by rw [hs2]; simp [relKV, leq.r]
        have h2 := hw.pick [relA gq, [row 3 1 la l.length lc (ints l), own b3 (.cells (atC x a c).toArray 34 (0, 0))], tabA g2, [rbA g2], relsA r1, relsA r2] [2, 3, 4, 0, 5] 6 rfl (by decide) (by decide)
        refine Hw.Sat.turned (h2.perm (List.Perm.of_eq ?_))
        unfold baseA rbA
        simp only [relsA_mid, ← hkv]
        rfl
    · try simp only [decide_eq_true_eq, decide_eq_false_iff_not, Bool.not_eq_true', Bool.not_eq_false'] at c23
      refine WC.skip ?_
      refine WX.next ?_
      refine WC.seq ?_
      obtain ⟨gr, hrel⟩ : ∃ gr, relOf g.rs (predOf x) = some gr := by
        cases hq : relOf g.rs (predOf x) with
        | none => rw [hq] at c23; simp at c23
        | some gr => exact ⟨gr, rfl⟩
      obtain ⟨g1, hg1⟩ : ∃ g1 : BaseG, g1 = g := ⟨_, rfl⟩
      have hp1 : g1.p = g.p := by rw [hg1]
      have hv1 : g1.vs = g.vs := by rw [hg1]
      have ok1 : BaseOK g1 := by rw [hg1]; exact ok
      have hf1 : factsB g1 = factsB g := by rw [hg1]
      have hr1 : g1.rs.length ≤ g.rs.length + 1 := by rw [hg1]; omega
      have hrel0 := hrel
      rw [← hg1] at hrel
      refine WC.weak (S' := Sat w (DD (baseA g)) (fun b => b < w.heap.size ∧ ¬ DD (baseA g) b) w (own b3 (.cells (atC x a c).toArray 34 (0, 0)) :: baseA g1)) (fun w' hw => by rw [hg1]; exact hw) ?_
      refine WC.sub (e' := [(0, ptr g1.p), (3, .pointer (some ⟨b3, 0, none⟩)), (6, ptr gr.r)]) ⟨by rw [hp1]; rfl, rfl, by rw [hrel0]; rfl, trivial⟩ ?_
      refine WC.selfB [5] (by kernel_rfl) (by kernel_rfl) (m := 8) rfl ?_
      refine WH.free 0 rfl (by kernel_rfl) (by kernel_rfl) (by kernel_rfl) rfl (fun _ => (fun _ h => h)) (OV.move rfl) rfl (listed' := [true, false, false, false, false, false, false, false]) rfl ?_
      refine WH.free 1 rfl (by kernel_rfl) (by kernel_rfl) (by kernel_rfl) rfl (fun _ => (fun _ h => h)) (OV.nilCheck rfl) rfl (listed' := [true, true, false, false, false, false, false, false]) rfl ?_
      first
      | (refine WH.free 2 rfl (by kernel_rfl) (by kernel_rfl) (by kernel_rfl) rfl (fun _ => (fun _ h => h)) (OV.fieldAddr0 (off := 0) rfl T.u84 rfl) rfl (listed' := [true, true, true, false, false, false, false, false]) rfl ?_)
      | (refine WH.free 2 rfl (by kernel_rfl) (by kernel_rfl) (by kernel_rfl) rfl (fun _ => (fun _ h => h)) (OV.fieldAddr (off := 0) rfl T.u84 rfl) rfl (listed' := [true, true, true, false, false, false, false, false]) rfl ?_)
      first
      | (refine WH.free 3 rfl (by kernel_rfl) (by kernel_rfl) (by kernel_rfl) rfl (fun _ => (fun _ h => h)) (OV.fieldAddr0 (off := 0) rfl T.u34 rfl) rfl (listed' := [true, true, true, true, false, false, false, false]) rfl ?_)
      | (refine WH.free 3 rfl (by kernel_rfl) (by kernel_rfl) (by kernel_rfl) rfl (fun _ => (fun _ h => h)) (OV.fieldAddr (off := 0) rfl T.u34 rfl) rfl (listed' := [true, true, true, true, false, false, false, false]) rfl ?_)
      refine WH.take 4 rfl (by kernel_rfl) (by kernel_rfl) (by kernel_rfl) (by kernel_rfl) (fun _ h => h) (OV.loadN (cs := tmC x.b) rfl T.u31 rfl T.z31 (fun _ hw j v hj => by rw [add_off]; exact own_part hw (.head _) (o := 0) (cs' := tmC x.b) rfl j v hj)) rfl (listed' := [true, true, true, true, true, false, false, false]) rfl ?_
      refine WH.only 5 rfl (by kernel_rfl) (listed' := [true, true, true, true, true, true, false, false]) rfl (fl' := true) rfl ?_
      refine WL.focus (ow' := tabA g1 ++ ((rbA g1 :: relsA g1.rs) ++ ([own b3 (.cells (atC x a c).toArray 34 (0, 0))]))) (perm_cat [[own b3 (.cells (atC x a c).toArray 34 (0, 0))], tabA g1, (rbA g1 :: relsA g1.rs)] [1, 2, 0] (by decide) rfl) ?_
      refine WL.callTA (ι := Nat × Option Nat × Option Addr × Nat) (vs := [ptr g1.p, tmV x.b]) (vv := fun z => .int .i64 ((z.1 : Nat) : Int)) (pp := fun z => numOf (numX g1.vs x.b) x.b = some z.1 ∧ (z.2.1 = none → numX g1.vs x.b = [])) (tabA g1) (AA := fun z => tabA (withVs g1 z.2.1 z.2.2.1 z.2.2.2 (numX g1.vs x.b))) rfl (by kernel_rfl) rfl rfl (fun w' hw' hH => (number_calls g1 ok1.nb ok1.vn ok1.vl x.b w' hH).mono (fun en w'' ⟨i, nb, va, vc, h1, h2, h3, h4⟩ => ⟨(i, nb, va, vc), h1, ⟨h2, h3⟩, h4⟩)) ?_
      rintro ⟨k48, nb48, va48, vc48⟩ hpp
      obtain ⟨hk48, hnb48⟩ : numOf (numX g1.vs x.b) x.b = some k48 ∧ (nb48 = none → numX g1.vs x.b = []) := hpp
      refine WL.nil ?_
      refine WX.contD (by kernel_rfl) (fun h => by cases h) ?_
      refine WH.only 6 rfl (by kernel_rfl) (listed' := [true, true, true, true, true, true, true, false]) rfl (fl' := true) rfl ?_
      refine WL.buildSlice1 (v := .int .i64 ((k48 : Nat) : Int)) T.u74 T.z3 T.zr3 rfl rfl rfl ?_
      intro b49
      refine WL.nil ?_
      refine WX.contD (by kernel_rfl) (fun h => by cases h) ?_
      refine WH.free 7 rfl (by kernel_rfl) (by kernel_rfl) (by kernel_rfl) rfl (fun h => by cases h) (OV.assign rfl) rfl (listed' := [true, true, true, true, true, true, true, true]) rfl ?_
      refine WH.done (by kernel_rfl) ?_
      refine WX.next ?_
      refine WC.seq ?_
      refine WC.seq ?_
      have hxb : rowOf (numX g1.vs x.b) [x.b] = some [(k48 : Int)] := by rw [rowOf, hk48]; rfl
      have ok3 := num_ok ok1 (va := va48) (vc := vc48) hnb48 (by rw [hv1]; omega)
      refine WC.weak (S' := Sat w (DD (baseA g)) (fun b => b < w.heap.size ∧ ¬ DD (baseA g) b) w (row 3 1 (some ⟨b49, 0, none⟩) 1 1 [.int .i64 ((k48 : Nat) : Int)] :: own b3 (.cells (atC x a c).toArray 34 (0, 0)) :: baseA (withVs g1 nb48 va48 vc48 (numX g1.vs x.b)))) (fun w' hw => by
        have h2 := hw.asRow (m := 1) (k := 1) rfl (by decide)
        exact h2.pick [[row 3 1 (some ⟨b49, 0, none⟩) 1 1 [.int .i64 ((k48 : Nat) : Int)]], tabA (withVs g1 nb48 va48 vc48 (numX g1.vs x.b)), (rbA g1 :: relsA g1.rs), [own b3 (.cells (atC x a c).toArray 34 (0, 0))]] [0, 3, 1, 2] 4 rfl (by decide) (by decide)) ?_
      refine WC.region ?_
      first
      | (refine WL.val (OV.fieldAddr0 (off := 4) rfl T.u34 rfl) rfl ?_)
      | (refine WL.val (OV.fieldAddr (off := 4) rfl T.u34 rfl) rfl ?_)
      refine WL.val (OV.load1 (v := .slice a x.args.length c) rfl T.u32 rfl (fun _ hw => (cell_at (hw.it _ (.tail _ (.head _))) (o := 4) rfl).1)) rfl ?_
      first
      | (refine WL.val (OV.lenSlice rfl T.u32) rfl ?_)
      | (refine WL.val (OV.lenStr rfl T.u32) rfl ?_)
      refine WL.val (OV.move rfl) rfl ?_
      refine WL.nil ?_
      refine WX.next ?_
      refine WC.block ?_
      refine WC.loop5 (fun (i : Nat) (la : Option Addr) (lc : Nat) (l : List Int) (g2 : BaseG) => [(0, ptr g1.p), (3, .pointer (some ⟨b3, 0, none⟩)), (6, ptr gr.r), (9, .slice la l.length lc), (51, .slice a x.args.length c), (52, .int .i64 (x.args.length : Int)), (53, .int .i64 (i : Int))])
          (fun i la lc l g2 w' => (i ≤ x.args.length ∧ BaseOK g2 ∧ g2.p = g1.p ∧ g2.rs = g1.rs ∧ factsB g2 = factsB g ∧ g2.vs.length ≤ g1.vs.length + 1 + i ∧ rowOf g2.vs (x.b :: x.args.take i) = some l) ∧ Sat w (DD (baseA g)) (fun b => b < w.heap.size ∧ ¬ DD (baseA g) b) w (row 3 1 la l.length lc (ints l) :: own b3 (.cells (atC x a c).toArray 34 (0, 0)) :: baseA g2) w')
          (fun i _ _ _ _ => x.args.length - i) 0 (some ⟨b49, 0, none⟩) 1 [(k48 : Int)] (withVs g1 nb48 va48 vc48 (numX g1.vs x.b)) ⟨rfl, rfl, rfl, rfl, rfl, rfl, rfl, trivial⟩ (fun w' hw => ⟨⟨by omega, ok3, rfl, rfl, by rw [← hf1]; exact factsB_pre ok1 (numX_pre _ _), by have := numX_len g1.vs x.b; show (numX g1.vs x.b).length ≤ _; omega, hxb⟩, hw⟩) ?_
      intro i la lc l g2
      refine WC.pure (fun hi => ?_)
      obtain ⟨hi, ok2, hp2, hrs2, hf2, hvl2, hrow⟩ := hi
      have hlen2 := rowOf_len hrow
      simp only [List.length_cons, List.length_take] at hlen2
      refine WC.seq ?_
      refine WC.region ?_
      refine WL.val (OV.lss rfl rfl) rfl ?_
      refine WL.nil ?_
      refine WX.next ?_
      refine WC.seq ?_
      refine WC.cond rfl (fun c54 => ?_) (fun c54 => ?_)
      · try simp only [decide_eq_true_eq, decide_eq_false_iff_not, Bool.not_eq_true', Bool.not_eq_false'] at c54
        refine WC.skip ?_
        refine WX.next ?_
        refine WC.seq ?_
        refine WC.block ?_
        refine WC.seq ?_
        refine WC.region ?_
        obtain ⟨q1, t, ha1, ht, htm, _, _⟩ := hr.get (i := i) (by omega)
        refine WL.val ((OV.indexSlice (a := q1) (show _ = some (Value.slice (some q1) x.args.length c) by rw [← ha1]; rfl) rfl T.u32 T.z31 (by omega)).cast (u := .pointer (some (q1.add (i * 3)))) (by rw [Int.toNat_natCast])) rfl ?_
        refine WL.val (OV.loadN (cs := tmC t) rfl T.u31 rfl T.z31 (fun _ hw j v hj => (hr.satA hne hw).at_ _ ha1 i t ht j v hj)) rfl ?_
        refine WL.alloc T.zr31 rfl ?_
        intro b11
        refine WL.storeAll (vs := tmC t) rfl rfl rfl T.z31 rfl ?_
        refine WL.nil ?_
        refine WX.next ?_
        refine WC.selfB [5] (by kernel_rfl) (by kernel_rfl) (m := 9) rfl ?_
        refine WH.free 0 rfl (by kernel_rfl) (by kernel_rfl) (by kernel_rfl) rfl (fun _ => (fun _ h => h)) (OV.move rfl) rfl (listed' := [true, false, false, false, false, false, false, false, false]) rfl ?_
        refine WH.free 1 rfl (by kernel_rfl) (by kernel_rfl) (by kernel_rfl) rfl (fun _ => (fun _ h => h)) (OV.move rfl) rfl (listed' := [true, true, false, false, false, false, false, false, false]) rfl ?_
        refine WH.free 2 rfl (by kernel_rfl) (by kernel_rfl) (by kernel_rfl) rfl (fun _ => (fun _ h => h)) (OV.nilCheck rfl) rfl (listed' := [true, true, true, false, false, false, false, false, false]) rfl ?_
        first
        | (refine WH.free 3 rfl (by kernel_rfl) (by kernel_rfl) (by kernel_rfl) rfl (fun _ => (fun _ h => h)) (OV.fieldAddr0 (off := 0) rfl T.u84 rfl) rfl (listed' := [true, true, true, true, false, false, false, false, false]) rfl ?_)
        | (refine WH.free 3 rfl (by kernel_rfl) (by kernel_rfl) (by kernel_rfl) rfl (fun _ => (fun _ h => h)) (OV.fieldAddr (off := 0) rfl T.u84 rfl) rfl (listed' := [true, true, true, true, false, false, false, false, false]) rfl ?_)
        refine WH.take 4 rfl (by kernel_rfl) (by kernel_rfl) (by kernel_rfl) (by kernel_rfl) (fun _ h => h) (OV.loadN (cs := tmC t) rfl T.u31 rfl T.z31 (fun _ hw j v hj => by rw [add_off, Nat.zero_add]; exact own_cells hw (.head _) j v hj)) rfl (listed' := [true, true, true, true, true, false, false, false, false]) rfl ?_
        refine WH.only 5 rfl (by kernel_rfl) (listed' := [true, true, true, true, true, true, false, false, false]) rfl (fl' := true) rfl ?_
        refine WL.focus (ow' := tabA g2 ++ ((rbA g2 :: relsA g2.rs) ++ ([own b11 (.cells (tmC t).toArray 31 (0, 0))] ++ ([row 3 1 la l.length lc (ints l)] ++ ([own b3 (.cells (atC x a c).toArray 34 (0, 0))]))))) (perm_cat [[own b11 (.cells (tmC t).toArray 31 (0, 0))], [row 3 1 la l.length lc (ints l)], [own b3 (.cells (atC x a c).toArray 34 (0, 0))], tabA g2, (rbA g2 :: relsA g2.rs)] [3, 4, 0, 1, 2] (by decide) rfl) ?_
        refine WL.callTA (ι := Nat × Option Nat × Option Addr × Nat) (vs := [ptr g2.p, tmV t]) (vv := fun z => .int .i64 ((z.1 : Nat) : Int)) (pp := fun z => numOf (numX g2.vs t) t = some z.1 ∧ (z.2.1 = none → numX g2.vs t = [])) (tabA g2) (AA := fun z => tabA (withVs g2 z.2.1 z.2.2.1 z.2.2.2 (numX g2.vs t))) rfl (by kernel_rfl) (by rw [hp2]; rfl) rfl (fun w' hw' hH => (number_calls g2 ok2.nb ok2.vn ok2.vl t w' hH).mono (fun en w'' ⟨i, nb, va, vc, h1, h2, h3, h4⟩ => ⟨(i, nb, va, vc), h1, ⟨h2, h3⟩, h4⟩)) ?_
        rintro ⟨k62, nb62, va62, vc62⟩ hpp
        obtain ⟨hk62, hnb62⟩ : numOf (numX g2.vs t) t = some k62 ∧ (nb62 = none → numX g2.vs t = []) := hpp
        refine WL.nil ?_
        refine WX.contD (by kernel_rfl) (fun h => by cases h) ?_
        refine WH.only 6 rfl (by kernel_rfl) (listed' := [true, true, true, true, true, true, true, false, false]) rfl (fl' := true) rfl ?_
        refine WL.buildSlice1 (v := .int .i64 ((k62 : Nat) : Int)) T.u74 T.z3 T.zr3 rfl rfl rfl ?_
        intro b63
        refine WL.nil ?_
        refine WX.contD (by kernel_rfl) (fun h => by cases h) ?_
        refine WH.only 7 rfl (by kernel_rfl) (listed' := [true, true, true, true, true, true, true, true, false]) rfl (fl' := true) rfl ?_
        refine WL.focus (ow' := [row 3 1 la l.length lc (ints l)] ++ ([own b63 (.cells [Value.int .i64 ((k62 : Nat) : Int)].toArray 3 (0, 0))] ++ ([own b3 (.cells (atC x a c).toArray 34 (0, 0))] ++ (tabA (withVs g2 nb62 va62 vc62 (numX g2.vs t)) ++ ((rbA g2 :: relsA g2.rs) ++ ([own b11 (.cells (tmC t).toArray 31 (0, 0))])))))) (perm_cat [[own b63 (.cells [Value.int .i64 ((k62 : Nat) : Int)].toArray 3 (0, 0))], tabA (withVs g2 nb62 va62 vc62 (numX g2.vs t)), (rbA g2 :: relsA g2.rs), [own b11 (.cells (tmC t).toArray 31 (0, 0))], [row 3 1 la l.length lc (ints l)], [own b3 (.cells (atC x a c).toArray 34 (0, 0))]] [4, 0, 5, 1, 2, 3] (by decide) rfl) ?_
        refine WL.append (news := [.int .i64 ((k62 : Nat) : Int)]) rfl rfl T.apI (fun _ _ => own_src (.tail _ (.head _)) rfl) (ints_one [(k62 : Int)]) ⟨by omega, by unfold maxLen; omega⟩ rfl ?_
        intro a64 c64
        refine WL.nil ?_
        refine WX.contD (by kernel_rfl) (fun h => by cases h) ?_
        refine WH.free 8 rfl (by kernel_rfl) (by kernel_rfl) (by kernel_rfl) rfl (fun h => by cases h) (OV.assign rfl) rfl (listed' := [true, true, true, true, true, true, true, true, true]) rfl ?_
        refine WH.done (by kernel_rfl) ?_
        refine WX.block_normal ?_
        refine WX.next ?_
        refine WC.region ?_
        refine WL.val (OV.addN (j := 1) rfl rfl (by omega)) rfl ?_
        refine WL.val (OV.move rfl) rfl ?_
        refine WL.nil ?_
        have ok4 := num_ok ok2 (va := va62) (vc := vc62) hnb62 (by rw [hv1] at hvl2; omega)
        have el : l.length + 1 = (l ++ [(k62 : Int)]).length := by simp
        have ef : ints l ++ [.int .i64 ((k62 : Nat) : Int)] = ints (l ++ [(k62 : Int)]) := by simp [ints]
        exact WX.round5 (i + 1) a64 c64 (l ++ [(k62 : Int)]) (withVs g2 nb62 va62 vc62 (numX g2.vs t)) ⟨rfl, rfl, rfl, by rw [← el]; rfl, rfl, rfl, rfl, trivial⟩ (fun w' hw => ⟨⟨by omega, ok4, hp2, hrs2, by rw [← hf2]; exact factsB_pre ok2 (numX_pre _ _), by have := numX_len g2.vs t; show (numX g2.vs t).length ≤ _; omega, by
          show rowOf (numX g2.vs t) (x.b :: x.args.take (i + 1)) = _
          rw [List.take_add_one, ht]
          exact rowOf_snoc hk62 (ts := x.b :: x.args.take i) (rowOf_pre (numX_pre _ _) hrow)⟩, by
          rw [el, ef] at hw
          exact hw.pick [[row 3 1 a64 (l ++ [(k62 : Int)]).length c64 (ints (l ++ [(k62 : Int)]))], [own b63 (.cells [Value.int .i64 ((k62 : Nat) : Int)].toArray 3 (0, 0))], [own b3 (.cells (atC x a c).toArray 34 (0, 0))], tabA (withVs g2 nb62 va62 vc62 (numX g2.vs t)), (rbA g2 :: relsA g2.rs), [own b11 (.cells (tmC t).toArray 31 (0, 0))]] [0, 2, 3, 4] 6 rfl (by decide) (by decide)⟩) (by show x.args.length - (i + 1) < x.args.length - i; omega)
      · try simp only [decide_eq_true_eq, decide_eq_false_iff_not, Bool.not_eq_true', Bool.not_eq_false'] at c54
        refine WC.exit ?_
        refine WX.then_exit ?_
        refine WX.then_exit ?_
        refine WX.block_hit ?_
        refine WX.next ?_
        refine WC.seq ?_
        refine WC.region ?_
        refine WL.val (OV.move rfl) rfl ?_
        refine WL.val (OV.move rfl) rfl ?_
        obtain ⟨r1, r2, hs2⟩ := relOf_split (show relOf g2.rs (predOf x) = some gr by rw [hrs2]; exact hrel)
        have hmem2 : (predOf x, gr) ∈ g2.rs := by rw [hs2]; exact List.mem_append_right _ (.head _)
        have okr := ok2.ok _ hmem2
        have hrow0 : rowOf g2.vs (tsOf x) = some l := by rw [List.take_of_length_le (by omega)] at hrow; exact hrow
        have hll := rowOf_len hrow0
        have hll2 : l.length = x.args.length + 1 := hll
        have hin := rowOf_in hrow0
        have hel := factsB_len g2
        rw [hf2, hs2] at hel
        simp only [List.map_append, List.map_cons, List.sum_append, List.sum_cons] at hel
        refine WL.focus (ow' := row 3 1 la l.length lc (ints l) :: own b3 (.cells (atC x a c).toArray 34 (0, 0)) :: (tabA g2 ++ (rbA g2 :: (relsA r1 ++ (relA gr ++ relsA r2))))) (List.Perm.of_eq (by rw [← relsA_mid r1 r2 (predOf x) gr, ← hs2]; rfl)) ?_
        refine WL.focus (ow' := relA gr ++ ([row 3 1 la l.length lc (ints l), own b3 (.cells (atC x a c).toArray 34 (0, 0))] ++ (tabA g2 ++ ([rbA g2] ++ (relsA r1 ++ (relsA r2)))))) (perm_cat [[row 3 1 la l.length lc (ints l), own b3 (.cells (atC x a c).toArray 34 (0, 0))], tabA g2, [rbA g2], relsA r1, relA gr, relsA r2] [4, 0, 1, 2, 3, 5] (by decide) rfl) ?_
        refine WL.callTA (ι := RelG) (vs := [ptr gr.r, .slice la l.length lc]) (vv := fun _ => .tuple #[.bool (addV gr.width (rp gr) l), .int .i64 (addE gr.width l)]) (pp := fun q => rp q = addRP gr.width (rp gr) l ∧ RelOK q ∧ RelLe gr q) (relA gr) (AA := fun q => relA q) rfl (by kernel_rfl) rfl rfl (fun w' hw' hH => (add_calls gr okr l la l.length lc (inVs_i64 hin ok2.vl) (by omega) (by omega) w' (RI.of_row (c := lc) hw' (List.mem_append_right _ (.head _))) (fun b hb _ => Sat.sepO hw' (i := row 3 1 la l.length lc (ints l)) (.head _) ⟨b, hb, rfl⟩) hH).mono (fun en w'' ⟨h1, g', h2, h3, h4, h5⟩ => ⟨g', h1, ⟨h2, h3, h4⟩, h5⟩)) ?_
        rintro gq hpp
        obtain ⟨hrpq, okq, leq⟩ : rp gq = addRP gr.width (rp gr) l ∧ RelOK gq ∧ RelLe gr gq := hpp
        refine WL.val (OV.extract rfl rfl) rfl ?_
        refine WL.val (OV.extract rfl rfl) rfl ?_
        refine WL.val (OV.assign rfl) rfl ?_
        refine WL.val (OV.assign rfl) rfl ?_
        refine WL.nil ?_
        refine WX.next ?_
        refine WC.ret ?_
        obtain ⟨hv, he, hok, hpm⟩ := add_plain ok2 hf2 hxf hrow0 hs2 hrpq okq leq.width hfl
        refine WX.ret2 rfl rfl rfl rfl (fun w' hw => ⟨by rw [hv, he, hxf, if_pos rfl, Bool.true_and], { g2 with rs := r1 ++ (predOf x, gq) :: r2 }, hok, by show g2.p = g.p; rw [hp2, hp1], hpm, by show g2.vs.length ≤ _; rw [hv1] at hvl2; omega, by
          show (r1 ++ (predOf x, gq) :: r2).length ≤ _
          have : (r1 ++ (predOf x, gr) :: r2).length ≤ g.rs.length + 1 := by rw [← hs2, hrs2]; exact hr1
          simpa using this, ?_⟩)
        have hkv : relKV g2.rs = relKV (r1 ++ (predOf x, gq) :: r2) := by rw [hs2]; simp [relKV, leq.r]
        have h2 := hw.pick [relA gq, [row 3 1 la l.length lc (ints l), own b3 (.cells (atC x a c).toArray 34 (0, 0))], tabA g2, [rbA g2], relsA r1, relsA r2] [2, 3, 4, 0, 5] 6 rfl (by decide) (by decide)
        refine Hw.Sat.turned (h2.perm (List.Perm.of_eq ?_))
        unfold baseA rbA
        simp only [relsA_mid, ← hkv]
        rfl

end Go.Proofs.YtgiiifadbnpfkaaGreatDoor

namespace Go.Proofs.YtgiiifadbnpfkaaGreatDoor
open Go Go.Hw
set_option linter.unusedSimpArgs false
set_option linter.unusedVariables false
theorem ofInt_wrap (z : Int) : BitVec.ofInt 64 (IntKind.i64.wrap z) = BitVec.ofInt 64 z := by
  apply BitVec.eq_of_toNat_eq
  rw [BitVec.toNat_ofInt, BitVec.toNat_ofInt]
  have h : IntKind.i64.wrap z = if 9223372036854775808 ≤ z % 18446744073709551616 then z % 18446744073709551616 - 18446744073709551616 else z % 18446744073709551616 := by
    unfold IntKind.wrap
    simp [IntKind.bits, IntKind.signed]
  rw [h]
  congr 1
  simp only [Nat.reducePow]
  split <;> omega
theorem inP_and (parts : Int) {n : Nat} (hn : n = 1 ∨ n = 2 ∨ n = 4) : inP (bits .and .i64 parts 7) n = inP parts n := by
  have h : bits .and .i64 (bits .and .i64 parts 7) (n : Int) = bits .and .i64 parts (n : Int) := by
    show IntKind.i64.wrap (((BitVec.ofInt 64 (IntKind.i64.wrap (((BitVec.ofInt 64 parts &&& BitVec.ofInt 64 7).toNat : Nat) : Int)) &&& BitVec.ofInt 64 (n : Int)).toNat : Nat) : Int) = IntKind.i64.wrap (((BitVec.ofInt 64 parts &&& BitVec.ofInt 64 (n : Int)).toNat : Nat) : Int)
    rw [ofInt_wrap]
    have h0 : ∀ c : BitVec 64, BitVec.ofInt 64 ((c.toNat : Nat) : Int) = c := fun c => by apply BitVec.eq_of_toNat_eq; simp
    rw [h0, BitVec.and_assoc]
    rcases hn with rfl | rfl | rfl <;> rfl
  unfold inP
  rw [h]
def selF (F : List (At × Nat)) (parts : Int) : List At := (F.filter fun q => inP parts q.2).map (·.1)
def partF (F : List (At × Nat)) (x : At) : Nat := ((F.find? fun q => decide (q.1 = x)).map (·.2)).getD 0
theorem facts_nodup {g : BaseG} (ok : BaseOK g) : ((factsB g).map (·.1)).Nodup := by
  have e : (factsB g).map (·.1) = g.rs.flatMap fun x => (rp x.2).map fun q => atomOf g.vs x.1 q.1 := by
    unfold factsB
    rw [List.map_flatMap]
    simp [List.map_map, Function.comp_def]
  rw [e]
  show List.Pairwise _ _
  rw [List.pairwise_flatMap]
  constructor
  · intro x hx
    rw [List.pairwise_map]
    have h1 := (ok.ok x hx).rows
    have h2 : ((rp x.2).map (·.1)).Nodup := by simpa [rp, List.map_map, Function.comp_def] using h1
    unfold List.Nodup at h2
    rw [List.pairwise_map] at h2
    refine List.Pairwise.imp_of_mem (fun {a b} ha hb hab e => ?_) h2
    obtain ⟨a1, a2⟩ := rel_row ok hx ha
    obtain ⟨b1, b2⟩ := rel_row ok hx hb
    obtain ⟨_, h3⟩ := (atomOf_iff ok.vn a2 a1 _).1 e
    have h4 := (atomOf_iff ok.vn b2 b1 (atomOf g.vs x.1 b.1)).1 rfl
    exact hab (Option.some.inj (h3.symm.trans h4.2))
  · have h1 : g.rs.Pairwise fun a b => a.1 ≠ b.1 := by have := ok.rn; unfold List.Nodup at this; rw [List.pairwise_map] at this; exact this
    refine List.Pairwise.imp_of_mem (fun {a b} ha hb hab x hx y hy e => ?_) h1
    obtain ⟨q, hq, rfl⟩ := List.mem_map.1 hx
    obtain ⟨z, hz, rfl⟩ := List.mem_map.1 hy
    obtain ⟨a1, a2⟩ := rel_row ok ha hq
    obtain ⟨b1, b2⟩ := rel_row ok hb hz
    have h2 := predOf_atomOf (vs := g.vs) a1
    have h3 := predOf_atomOf (vs := g.vs) b1
    rw [e, h3] at h2
    exact hab h2.symm
theorem find_fst {F : List (At × Nat)} (hn : (F.map (·.1)).Nodup) {x : At} {n : Nat} (h : (x, n) ∈ F) : F.find? (fun q => decide (q.1 = x)) = some (x, n) := by
  induction F with
  | nil => cases h
  | cons q F ih =>
    rw [List.map_cons, List.nodup_cons] at hn
    rcases List.mem_cons.1 h with rfl | h
    · rw [List.find?_cons_of_pos (by simp)]
    · have : ¬ q.1 = x := fun e => hn.1 (List.mem_map.2 ⟨(x, n), h, e.symm⟩)
      rw [List.find?_cons_of_neg (by simpa using this)]
      exact ih hn.2 h
theorem partF_mem {F : List (At × Nat)} (hn : (F.map (·.1)).Nodup) {x : At} {n : Nat} (h : (x, n) ∈ F) : partF F x = n := by
  rw [partF, find_fst hn h]; rfl
/-! ### Ranges over the map of relations -/
def visL {α : Type} (rs : List α) (vis : List Nat) : List α := vis.filterMap fun i => rs[i]?
theorem visL_snoc {α : Type} {rs : List α} {vis : List Nat} {i : Nat} {x : α} (h : rs[i]? = some x) : visL rs (vis ++ [i]) = visL rs vis ++ [x] := by
  unfold visL
  rw [List.filterMap_append]
  simp [h]
theorem range_get {α : Type} : ∀ rs : List α, (List.range rs.length).filterMap (fun i => rs[i]?) = rs
  | [] => rfl
  | x :: t => by
    rw [List.length_cons, List.range_succ_eq_map, List.filterMap_cons]
    simp only [List.getElem?_cons_zero, List.filterMap_map, Function.comp_def, List.getElem?_cons_succ]
    rw [range_get t]
theorem visL_all {α : Type} {rs : List α} {vis : List Nat} (hn : vis.Nodup) (hl : ∀ i ∈ vis, i < rs.length) (ha : ∀ i, i < rs.length → i ∈ vis) : (visL rs vis).Perm rs := by
  have h1 : vis.Perm (List.range rs.length) := (List.perm_ext_iff_of_nodup hn List.nodup_range).2 fun i => ⟨fun h => List.mem_range.2 (hl i h), fun h => ha i (List.mem_range.1 h)⟩
  have h2 := h1.filterMap fun i => rs[i]?
  exact h2.trans (List.Perm.of_eq (range_get rs))
structure Vs {α : Type} (rs : List α) (vis : List Nat) : Prop where
  nd : vis.Nodup
  lt : ∀ i ∈ vis, i < rs.length
theorem Vs.start {α : Type} (rs : List α) : Vs rs [] := ⟨.nil, fun i hi => by cases hi⟩
theorem Vs.step {α : Type} {rs : List α} {vis : List Nat} (h : Vs rs vis) {i : Nat} (hi : i < rs.length) (hv : i ∉ vis) : Vs rs (vis ++ [i]) := by
  refine ⟨?_, fun j hj => ?_⟩
  · rw [List.nodup_append]
    exact ⟨h.nd, by simp, fun a ha b hb => by simp only [List.mem_singleton] at hb; subst hb; exact fun e => hv (e ▸ ha)⟩
  · rcases List.mem_append.1 hj with h1 | h1
    · exact h.lt j h1
    · simp only [List.mem_singleton] at h1; subst h1; exact hi
theorem Vs.all {α : Type} {rs : List α} {vis : List Nat} (h : Vs rs vis) (ha : ∀ i, i < rs.length → i ∈ vis) : (visL rs vis).Perm rs := visL_all h.nd h.lt ha
theorem relKV_len (rs : List (Pd × RelG)) : (relKV rs).length = rs.length := by simp [relKV]
theorem relKV_get {rs : List (Pd × RelG)} {i : Nat} {q : Pd × Value} (h : (relKV rs)[i]? = some q) : ∃ x, rs[i]? = some x ∧ x ∈ rs ∧ q = (x.1, ptr x.2.r) ∧ i < rs.length := by
  rw [relKV, List.getElem?_map, Option.map_eq_some_iff] at h
  obtain ⟨x, hx, rfl⟩ := h
  exact ⟨x, hx, List.mem_of_getElem? hx, rfl, (List.getElem?_eq_some_iff.1 hx).1⟩
end Go.Proofs.YtgiiifadbnpfkaaGreatDoor

namespace Go.Proofs.YtgiiifadbnpfkaaGreatDoor
open Go Go.Hw
set_option linter.unusedSimpArgs false
set_option linter.unusedVariables false
theorem sub_sum : ∀ {l m : List Nat}, l.Sublist m → l.sum ≤ m.sum
  | _, _, .slnil => Nat.le_refl _
  | _, _, .cons a h => by have := sub_sum h; simp only [List.sum_cons]; omega
  | _, _, .cons_cons a h => by have := sub_sum h; simp only [List.sum_cons]; omega
theorem vis_le {α : Type} {rs : List α} {vis : List Nat} {f f2 : α → Nat} (hf : ∀ x, f x ≤ f2 x) (h : Vs rs vis) : ((visL rs vis).map f).sum ≤ (rs.map f2).sum := by
  have h1 : ((visL rs vis).map f).sum ≤ ((visL rs vis).map f2).sum := by
    generalize visL rs vis = l
    induction l with
    | nil => simp
    | cons x l ih => have := hf x; simp only [List.map_cons, List.sum_cons]; omega
  have h2 : vis.Perm ((List.range rs.length).filter fun i => decide (i ∈ vis)) := (List.perm_ext_iff_of_nodup h.nd (List.nodup_range.filter _)).2 fun i => by
    simp only [List.mem_filter, List.mem_range, decide_eq_true_eq]
    exact ⟨fun hi => ⟨h.lt i hi, hi⟩, fun hi => hi.2⟩
  have h3 : ((visL rs vis).map f2).sum = (((visL rs ((List.range rs.length).filter fun i => decide (i ∈ vis)))).map f2).sum := ((h2.filterMap _).map f2).sum_nat
  have h4 : (visL rs ((List.range rs.length).filter fun i => decide (i ∈ vis))).Sublist rs := by
    have h5 : (visL rs ((List.range rs.length).filter fun i => decide (i ∈ vis))).Sublist (visL rs (List.range rs.length)) := List.filter_sublist.filterMap _
    rwa [show visL rs (List.range rs.length) = rs from range_get rs] at h5
  have h6 := sub_sum (h4.map f2)
  omega

end Go.Proofs.YtgiiifadbnpfkaaGreatDoor

namespace Go.Proofs.YtgiiifadbnpfkaaGreatDoor
open Go Go.Hw
set_option linter.unusedSimpArgs false
set_option linter.unusedVariables false
def turnF (F : List (At × Nat)) : List (At × Nat) := F.map fun q => (q.1, if q.2 = 4 then 2 else 1)
def n4F (F : List (At × Nat)) : Nat := (F.filter fun q => decide (q.2 = 4)).length
def turnV (rs : List (Pd × RelG)) (vis : List Nat) : List (Pd × RelG) := rs.mapIdx fun i x => if i ∈ vis then (x.1, turnG x.2) else x
theorem turnV_nil (rs : List (Pd × RelG)) : turnV rs [] = rs := by
  apply List.ext_getElem?
  intro i
  simp [turnV]
theorem turnV_get (rs : List (Pd × RelG)) (vis : List Nat) (i : Nat) : (turnV rs vis)[i]? = (rs[i]?).map fun x => if i ∈ vis then (x.1, turnG x.2) else x := by simp [turnV]
theorem turnV_kv (rs : List (Pd × RelG)) (vis : List Nat) : relKV (turnV rs vis) = relKV rs := by
  apply List.ext_getElem?
  intro i
  simp only [relKV, List.getElem?_map, turnV_get]
  cases rs[i]? with
  | none => rfl
  | some x => simp only [Option.map_some]; split <;> rfl
theorem turnV_step {rs : List (Pd × RelG)} {vis : List Nat} {i : Nat} {x : Pd × RelG} (hx : rs[i]? = some x) (hv : i ∉ vis) : ∃ r1 r2, turnV rs vis = r1 ++ x :: r2 ∧ turnV rs (vis ++ [i]) = r1 ++ (x.1, turnG x.2) :: r2 := by
  have h1 : (turnV rs vis)[i]? = some x := by rw [turnV_get, hx, Option.map_some, if_neg hv]
  obtain ⟨r1, r2, he, hl⟩ := split_get h1
  refine ⟨r1, r2, he, ?_⟩
  apply List.ext_getElem?
  intro j
  have h2 : (turnV rs vis)[j]? = (r1 ++ x :: r2)[j]? := by rw [he]
  rw [turnV_get] at h2 ⊢
  rcases Nat.lt_trichotomy j i with h | h | h
  · rw [List.getElem?_append_left (by omega)] at h2 ⊢
    rw [← h2]
    have : (j ∈ vis ++ [i]) ↔ j ∈ vis := by simp; omega
    simp only [this]
  · subst h
    rw [hx, Option.map_some, if_pos (by simp), List.getElem?_append_right (by omega), hl, Nat.sub_self]
    rfl
  · rw [List.getElem?_append_right (by omega)] at h2 ⊢
    obtain ⟨k, hk⟩ : ∃ k, j - r1.length = k + 1 := ⟨j - r1.length - 1, by omega⟩
    rw [hk, List.getElem?_cons_succ] at h2 ⊢
    rw [← h2]
    have : (j ∈ vis ++ [i]) ↔ j ∈ vis := by simp; omega
    simp only [this]
theorem turnV_all {rs : List (Pd × RelG)} {vis : List Nat} (h : ∀ i, i < rs.length → i ∈ vis) : turnV rs vis = rs.map fun x => (x.1, turnG x.2) := by
  apply List.ext_getElem?
  intro i
  rw [turnV_get, List.getElem?_map]
  by_cases hi : i < rs.length
  · rw [List.getElem?_eq_getElem hi, Option.map_some, Option.map_some, if_pos (h i hi)]
  · rw [List.getElem?_eq_none (by omega)]; rfl
theorem rp_turnG (g : RelG) : rp (turnG g) = (rp g).map fun p => (p.1, if p.2 = 4 then 2 else 1) := by
  simp [rp, turnG, turnE]
theorem ns_len4 {g : RelG} (ok : RelOK g) : g.ns.length = ((rp g).filter fun q => decide (q.2 = 4)).length := by
  rw [ok.ns, List.length_map, rp, List.filter_map, List.length_map]
  rfl
abbrev turnB (g : BaseG) : BaseG := { g with rs := g.rs.map fun x => (x.1, turnG x.2) }
theorem factsB_turn (g : BaseG) : factsB (turnB g) = turnF (factsB g) := by
  unfold factsB turnF
  show (g.rs.map _).flatMap _ = _
  rw [List.flatMap_map, List.map_flatMap]
  congr 1
  funext x
  rw [rp_turnG, List.map_map, List.map_map]
  rfl
theorem turnB_ok {g : BaseG} (ok : BaseOK g) : BaseOK (turnB g) where
  nb := ok.nb
  vn := ok.vn
  rn := by
    show ((g.rs.map fun x => (x.1, turnG x.2)).map (·.1)).Nodup
    rw [List.map_map]; exact ok.rn
  ok x hx := by obtain ⟨y, hy, rfl⟩ := List.mem_map.1 hx; exact turnG_ok (ok.ok y hy)
  wd x hx := by obtain ⟨y, hy, rfl⟩ := List.mem_map.1 hx; exact ok.wd y hy
  ar x hx := by obtain ⟨y, hy, rfl⟩ := List.mem_map.1 hx; exact ok.ar y hy
  inr x hx r hr := by
    obtain ⟨y, hy, rfl⟩ := List.mem_map.1 hx
    rw [rp_turnG, List.map_map] at hr
    exact ok.inr y hy r hr
  vl := ok.vl
  rl := by show (g.rs.map _).length ≤ _; rw [List.length_map]; exact ok.rl
  fl := by
    show ((g.rs.map _).map _).sum ≤ _
    rw [List.map_map]
    have e : ((fun x : Pd × RelG => x.2.es.length) ∘ fun x : Pd × RelG => (x.1, turnG x.2)) = fun x : Pd × RelG => x.2.es.length := by funext x; simp [turnG]
    rw [e]; exact ok.fl
theorem n4_sum (g : BaseG) : n4F (factsB g) = (g.rs.map fun x => ((rp x.2).filter fun q => decide (q.2 = 4)).length).sum := by
  unfold n4F factsB
  rw [List.filter_flatMap, List.length_flatMap]
  congr 1
  refine List.map_congr_left fun x _ => ?_
  rw [List.filter_map, List.length_map]
  rfl

set_option maxRecDepth 10000 in
theorem bturn_calls (g : BaseG) (ok : BaseOK g) (w : World) (hA : Holds (baseA g) w) : Calls Tryz.prog 25 #[ptr g.p] w fun e w' => e = .returned (.int .i64 ((n4F (factsB g) : Nat) : Int)) ∧ Turns (baseA g) (baseA (turnB g)) w w' := by
  refine enterA hA (args := [ptr g.p]) Tryz.func25 rfl Tryz.ntmps25 rfl rfl ?_
  refine WC.seq ?_
  refine WC.region ?_
  refine WL.val (OV.assign rfl) rfl ?_
  refine WL.nil ?_
  refine WX.next ?_
  refine WC.seq ?_
  refine WC.region ?_
  refine WL.val (OV.assign rfl) rfl ?_
  refine WL.nil ?_
  refine WX.next ?_
  refine WC.seq ?_
  refine WC.seq ?_
  refine WC.region ?_
  refine WL.val (OV.move rfl) rfl ?_
  refine WL.val (OV.nilCheck rfl) rfl ?_
  first
  | (refine WL.val (OV.fieldAddr0 (off := 2) rfl T.u84 rfl) rfl ?_)
  | (refine WL.val (OV.fieldAddr (off := 2) rfl T.u84 rfl) rfl ?_)
  refine WL.val (OV.load1 (v := .map (some g.rb)) rfl T.u82 rfl (fun _ hw => (cell_at (hw.it _ (.head _)) (o := 2) rfl).1)) rfl ?_
  refine WL.range T.u82 rfl (fun _ hw => own_map (kv := relKV g.rs) (List.mem_append_right _ (.head _)) _ hw) rfl ?_
  intro it10
  refine WL.nil ?_
  refine WX.next ?_
  refine WC.block ?_
  refine WC.weak (S' := Sat w (DD (baseA g)) (fun b => b < w.heap.size ∧ ¬ DD (baseA g) b) w (own it10 (iterK g.rb (relKV g.rs).length []) :: (tabA g ++ (rbA g :: relsA (turnV g.rs []))))) (fun w' hw => by rw [turnV_nil]; exact hw) ?_
  refine WC.loop1 (fun (vis : List Nat) => [(0, ptr g.p), (3, .int .i64 ((((visL g.rs vis).map fun x => ((rp x.2).filter fun q => decide (q.2 = 4)).length).sum : Nat) : Int)), (10, .pointer (some ⟨it10, 0, none⟩))])
      (fun vis w' => Vs g.rs vis ∧ Sat w (DD (baseA g)) (fun b => b < w.heap.size ∧ ¬ DD (baseA g) b) w (own it10 (iterK g.rb (relKV g.rs).length vis) :: (tabA g ++ (rbA g :: relsA (turnV g.rs vis)))) w') (fun vis => unseen (relKV g.rs).length vis) [] ⟨rfl, rfl, rfl, trivial⟩ (fun w' hw => ⟨Vs.start _, hw⟩) ?_
  intro vis
  refine WC.pure (fun hvs => ?_)
  refine WC.seq ?_
  refine WC.region ?_
  refine WL.next (enc := pdV) (kv := relKV g.rs) rfl rfl (fun _ hw => own_map (.tail _ (List.mem_append_right _ (.head _))) _ hw) ?_ ?_
  · intro hall
    refine WL.val (OV.extract rfl rfl) rfl ?_
    refine WL.nil ?_
    refine WX.next ?_
    refine WC.seq ?_
    refine WC.condF rfl ?_
    refine WC.exit ?_
    refine WX.then_exit ?_
    refine WX.then_exit ?_
    refine WX.block_hit ?_
    refine WX.next ?_
    refine WC.seq ?_
    refine WC.region ?_
    refine WL.val (OV.move rfl) rfl ?_
    refine WL.val (OV.assign rfl) rfl ?_
    refine WL.nil ?_
    refine WX.next ?_
    refine WC.ret ?_
    have hal : ∀ i, i < g.rs.length → i ∈ vis := fun i hi => hall i (by rw [relKV_len]; exact hi)
    refine WX.ret1 rfl rfl rfl (fun w' hw => ⟨by rw [n4_sum, ((hvs.all hal).map _).sum_nat], ?_⟩)
    refine Hw.Sat.turned (hw.drop.perm (List.Perm.of_eq ?_))
    have hk := turnV_kv g.rs vis
    rw [turnV_all hal] at hk ⊢
    unfold baseA rbA
    rw [show relKV (turnB g).rs = relKV g.rs from hk]
    rfl
  · intro i q hi2 hv
    obtain ⟨x, hx, hxm, rfl, hil⟩ := relKV_get hi2
    refine WL.val (OV.extract rfl rfl) rfl ?_
    refine WL.nil ?_
    refine WX.next ?_
    refine WC.seq ?_
    refine WC.condT rfl ?_
    refine WC.skip ?_
    refine WX.next ?_
    refine WC.block ?_
    refine WC.seq ?_
    refine WC.region ?_
    refine WL.val (OV.entry (enc := pdV) (kv := relKV g.rs) (i := i) rfl (fun _ hw => hw.it _ (.head _)) (fun _ hw => own_map (.tail _ (List.mem_append_right _ (.head _))) _ hw) hi2) rfl ?_
    refine WL.val (OV.extract rfl rfl) rfl ?_
    refine WL.val (OV.assign rfl) rfl ?_
    refine WL.nil ?_
    refine WX.next ?_
    refine WC.region ?_
    refine WL.val (OV.move rfl) rfl ?_
    refine WL.val (OV.move rfl) rfl ?_
    have okr := ok.ok _ hxm
    obtain ⟨r1, r2, hr1, hr2⟩ := turnV_step hx hv
    have hbd : ((visL g.rs vis).map fun x => ((rp x.2).filter fun q => decide (q.2 = 4)).length).sum + x.2.ns.length ≤ 1099511627776 := by
      have h1 := vis_le (f := fun x : Pd × RelG => ((rp x.2).filter fun q => decide (q.2 = 4)).length) (f2 := fun x => x.2.es.length) (fun y => by have := List.length_filter_le (fun q : List Int × Nat => decide (q.2 = 4)) (rp y.2); rw [rp_len] at this; exact this) (hvs.step hil hv)
      rw [visL_snoc hx, List.map_append, List.sum_append] at h1
      have := ok.fl
      rw [ns_len4 okr]
      simp only [List.map_cons, List.map_nil, List.sum_cons, List.sum_nil] at h1
      omega
    refine WL.focus (ow' := own it10 (iterK g.rb (relKV g.rs).length (vis ++ [i])) :: (tabA g ++ (rbA g :: (relsA r1 ++ (relA x.2 ++ relsA r2))))) (List.Perm.of_eq (by rw [hr1, show x = (x.1, x.2) from rfl, relsA_mid])) ?_
    refine WL.focus (ow' := relA x.2 ++ ([own it10 (iterK g.rb (relKV g.rs).length (vis ++ [i]))] ++ (tabA g ++ ([rbA g] ++ (relsA r1 ++ (relsA r2)))))) (perm_cat [[own it10 (iterK g.rb (relKV g.rs).length (vis ++ [i]))], tabA g, [rbA g], relsA r1, relA x.2, relsA r2] [4, 0, 1, 2, 3, 5] (by decide) rfl) ?_
    refine WL.callTA (ι := Unit) (vs := [ptr x.2.r]) (vv := fun _ => .int .i64 ((x.2.ns.length : Nat) : Int)) (pp := fun _ => True) (relA x.2) (AA := fun _ => relA (turnG x.2)) rfl (by kernel_rfl) rfl rfl (fun w' hw' hH => (turn_calls x.2 okr w' hH).mono (fun en w'' ⟨h1, h2⟩ => ⟨(), h1, trivial, h2⟩)) ?_
    rintro _ _
    refine WL.focus (ow' := [own it10 (iterK g.rb (relKV g.rs).length (vis ++ [i]))] ++ (tabA g ++ ([rbA g] ++ (relsA r1 ++ (relA (turnG x.2) ++ (relsA r2)))))) (perm_cat [relA (turnG x.2), [own it10 (iterK g.rb (relKV g.rs).length (vis ++ [i]))], tabA g, [rbA g], relsA r1, relsA r2] [1, 2, 3, 4, 0, 5] (by decide) rfl) ?_
    refine WL.val (OV.addN (i := ((visL g.rs vis).map fun x => ((rp x.2).filter fun q => decide (q.2 = 4)).length).sum) (j := x.2.ns.length) rfl rfl (by have := hbd; omega)) rfl ?_
    refine WL.val (OV.assign rfl) rfl ?_
    refine WL.nil ?_
    refine WX.block_normal ?_
    exact WX.round1 (vis ++ [i]) ⟨rfl, by rw [visL_snoc hx, List.map_append, List.sum_append]; simp only [List.map_cons, List.map_nil, List.sum_cons, List.sum_nil, Nat.add_zero, ← ns_len4 okr]; rfl, rfl, trivial⟩ (fun w' hw => ⟨hvs.step hil hv, by rw [hr2, relsA_mid]; exact hw⟩) (unseen_lt (by rw [relKV_len]; exact hil) hv)

/-- The same facts, though the relations' indices may be others. -/
structure SameB (g g1 : BaseG) : Prop where
  p : g1.p = g.p
  nb : g1.nb = g.nb
  va : g1.va = g.va
  vc : g1.vc = g.vc
  vs : g1.vs = g.vs
  rb : g1.rb = g.rb
  len : g1.rs.length = g.rs.length
  at_ : ∀ (i : Nat) (x : Pd × RelG), g.rs[i]? = some x → ∃ x' : Pd × RelG, g1.rs[i]? = some x' ∧ x'.1 = x.1 ∧ x'.2.es = x.2.es ∧ x'.2.r = x.2.r ∧ x'.2.width = x.2.width ∧ RelOK x'.2
theorem SameB.refl {g : BaseG} (ok : BaseOK g) : SameB g g := ⟨rfl, rfl, rfl, rfl, rfl, rfl, rfl, fun i x hx => ⟨x, hx, rfl, rfl, rfl, rfl, ok.ok x (List.mem_of_getElem? hx)⟩⟩
theorem SameB.map {g g1 : BaseG} (h : SameB g g1) {β : Type} (f : Pd × RelG → β) (hf : ∀ x x' : Pd × RelG, x'.1 = x.1 → x'.2.es = x.2.es → x'.2.r = x.2.r → x'.2.width = x.2.width → f x' = f x) : g1.rs.map f = g.rs.map f := by
  apply List.ext_getElem?
  intro i
  rw [List.getElem?_map, List.getElem?_map]
  cases hx : g.rs[i]? with
  | none =>
    have h1 := List.getElem?_eq_none_iff.1 hx
    rw [List.getElem?_eq_none (by rw [h.len]; exact h1)]
  | some x =>
    obtain ⟨x', h1, h2, h3, h4, h5, _⟩ := h.at_ i x hx
    rw [h1, Option.map_some, Option.map_some, hf x x' h2 h3 h4 h5]
theorem SameB.kv {g g1 : BaseG} (h : SameB g g1) : relKV g1.rs = relKV g.rs := h.map _ fun x x' h1 _ h3 _ => by rw [h1, h3]
theorem SameB.facts {g g1 : BaseG} (h : SameB g g1) : factsB g1 = factsB g := by
  unfold factsB
  rw [List.flatMap_def, List.flatMap_def, h.vs]
  exact congrArg List.flatten (h.map _ fun x x' h1 h2 _ _ => by rw [h1, rp, h2, rp])
theorem SameB.back {g g1 : BaseG} (h : SameB g g1) {i : Nat} {x' : Pd × RelG} (hx : g1.rs[i]? = some x') : ∃ x, g.rs[i]? = some x ∧ x'.1 = x.1 ∧ x'.2.es = x.2.es ∧ x'.2.r = x.2.r ∧ x'.2.width = x.2.width ∧ RelOK x'.2 := by
  have hi : i < g.rs.length := by rw [← h.len]; exact (List.getElem?_eq_some_iff.1 hx).1
  obtain ⟨y, h1, h2⟩ := h.at_ i _ (List.getElem?_eq_getElem hi)
  rw [hx] at h1; cases h1
  exact ⟨_, List.getElem?_eq_getElem hi, h2⟩
theorem SameB.ok {g g1 : BaseG} (h : SameB g g1) (ok : BaseOK g) : BaseOK g1 := by
  have hb : ∀ {C : Pd × RelG → Prop}, (∀ x x' : Pd × RelG, x ∈ g.rs → x'.1 = x.1 → x'.2.es = x.2.es → x'.2.width = x.2.width → RelOK x'.2 → C x') → ∀ x ∈ g1.rs, C x := by
    intro C hc x hx
    obtain ⟨i, hi⟩ := List.mem_iff_getElem?.1 hx
    obtain ⟨y, h1, h2, h3, _, h5, h6⟩ := h.back hi
    exact hc y x (List.mem_of_getElem? h1) h2 h3 h5 h6
  refine ⟨by rw [h.nb, h.vs]; exact ok.nb, by rw [h.vs]; exact ok.vn, by rw [h.map (·.1) (fun x x' h1 _ _ _ => h1)]; exact ok.rn, hb fun x x' _ _ _ _ h => h, hb fun x x' hx h1 _ h3 _ => by rw [h3, h1]; exact ok.wd x hx, hb fun x x' hx h1 _ _ _ => by rw [h1]; exact ok.ar x hx, hb fun x x' hx _ h2 _ _ r hr k hk => by
    rw [rp, h2] at hr
    rw [h.vs]
    exact ok.inr x hx r hr k hk, by rw [h.vs]; exact ok.vl, by rw [h.len]; exact ok.rl, by rw [h.map (fun x => x.2.es.length) (fun x x' _ h2 _ _ => by rw [h2])]; exact ok.fl⟩
theorem SameB.trans {g g1 g2 : BaseG} (h : SameB g g1) (k : SameB g1 g2) : SameB g g2 :=
  ⟨k.p.trans h.p, k.nb.trans h.nb, k.va.trans h.va, k.vc.trans h.vc, k.vs.trans h.vs, k.rb.trans h.rb, k.len.trans h.len, fun i x hx => by
    obtain ⟨x1, h1, h2, h3, h4, h5, _⟩ := h.at_ i x hx
    obtain ⟨x2, k1, k2, k3, k4, k5, k6⟩ := k.at_ i x1 h1
    exact ⟨x2, k1, k2.trans h2, k3.trans h3, k4.trans h4, k5.trans h5, k6⟩⟩
theorem SameB.setRel {g g1 : BaseG} (h : SameB g g1) {r1 r2 : List (Pd × RelG)} {x : Pd × RelG} (hs : g1.rs = r1 ++ x :: r2) {gr : RelG} (h1 : gr.es = x.2.es) (h2 : gr.r = x.2.r) (h3 : gr.width = x.2.width) (h4 : RelOK gr) : SameB g { g1 with rs := r1 ++ (x.1, gr) :: r2 } := by
  refine ⟨h.p, h.nb, h.va, h.vc, h.vs, h.rb, by have := h.len; rw [hs] at this; simpa using this, fun i y hy => ?_⟩
  obtain ⟨y', k1, k2, k3, k4, k5, k6⟩ := h.at_ i y hy
  rw [hs] at k1
  show ∃ x', (r1 ++ (x.1, gr) :: r2)[i]? = some x' ∧ _
  rcases Nat.lt_trichotomy i r1.length with hi | hi | hi
  · rw [List.getElem?_append_left hi] at k1 ⊢
    exact ⟨y', k1, k2, k3, k4, k5, k6⟩
  · rw [List.getElem?_append_right (by omega), hi, Nat.sub_self] at k1 ⊢
    simp only [List.getElem?_cons_zero, Option.some.injEq] at k1
    subst k1
    exact ⟨(x.1, gr), rfl, k2, h1.trans k3, h2.trans k4, h3.trans k5, h4⟩
  · rw [List.getElem?_append_right (by omega)] at k1 ⊢
    obtain ⟨k, hk⟩ : ∃ k, i - r1.length = k + 1 := ⟨i - r1.length - 1, by omega⟩
    rw [hk, List.getElem?_cons_succ] at k1 ⊢
    exact ⟨y', k1, k2, k3, k4, k5, k6⟩

end Go.Proofs.YtgiiifadbnpfkaaGreatDoor

namespace Go.Proofs
set_option linter.unusedSimpArgs false
set_option linter.unusedVariables false
open Go Go.Shelf
set_option maxRecDepth 100000
def Tryz.sortA_ren : Go.Shelf.Ren := ⟨fun | 6 => 37 | 15 => 68 | 14 => 67 | 28 => 107 | 29 => 108 | 20 => 99 | 21 => 100 | 22 => 101 | 23 => 102 | 24 => 103 | 25 => 104 | 26 => 105 | 27 => 106 | 46 => 131 | 47 => 132 | 48 => 133 | 49 => 134 | 50 => 135 | 57 => 169 | n => n, fun | 22 => 27 | 24 => 34 | 25 => 90 | 3 => 3 | 39 => 125 | 0 => 0 | 53 => 136 | 55 => 179 | 4 => 4 | 46 => 172 | 45 => 171 | 50 => 128 | 5 => 5 | 9 => 9 | 66 => 195 | 70 => 199 | 76 => 219 | 77 => 220 | n => n, fun | n => n⟩
theorem Tryz.sortA : Go.Proofs.SlLaysF0.n6 Tryz.prog Tryz.sortA_ren := {
  mixed := by kernel_rfl
  f6 := ⟨Tryz.f37.name, by decide, Tryz.func37.trans (congrArg some (by kernel_rfl))⟩
  f14 := ⟨Tryz.f67.name, by decide, Tryz.func67.trans (congrArg some (by kernel_rfl))⟩
  f15 := Tryz.func68.trans (congrArg some (by kernel_rfl))
  f20 := ⟨Tryz.f99.name, by decide, Tryz.func99.trans (congrArg some (by kernel_rfl))⟩
  f21 := ⟨Tryz.f100.name, by decide, Tryz.func100.trans (congrArg some (by kernel_rfl))⟩
  f22 := ⟨Tryz.f101.name, by decide, Tryz.func101.trans (congrArg some (by kernel_rfl))⟩
  f23 := ⟨Tryz.f102.name, by decide, Tryz.func102.trans (congrArg some (by kernel_rfl))⟩
  f24 := ⟨Tryz.f103.name, by decide, Tryz.func103.trans (congrArg some (by kernel_rfl))⟩
  f25 := ⟨Tryz.f104.name, by decide, Tryz.func104.trans (congrArg some (by kernel_rfl))⟩
  f26 := ⟨Tryz.f105.name, by decide, Tryz.func105.trans (congrArg some (by kernel_rfl))⟩
  f27 := ⟨Tryz.f106.name, by decide, Tryz.func106.trans (congrArg some (by kernel_rfl))⟩
  f28 := Tryz.func107.trans (congrArg some (by kernel_rfl))
  f29 := Tryz.func108.trans (congrArg some (by kernel_rfl))
  f46 := ⟨Tryz.f131.name, by decide, Tryz.func131.trans (congrArg some (by kernel_rfl))⟩
  f47 := Tryz.func132.trans (congrArg some (by kernel_rfl))
  f48 := Tryz.func133.trans (congrArg some (by kernel_rfl))
  f49 := ⟨Tryz.f134.name, by decide, Tryz.func134.trans (congrArg some (by kernel_rfl))⟩
  f50 := ⟨Tryz.f135.name, by decide, Tryz.func135.trans (congrArg some (by kernel_rfl))⟩
  f57 := ⟨Tryz.f169.name, by decide, Tryz.func169.trans (congrArg some (by kernel_rfl))⟩
  t0 := Tryz.underlying0
  a0 := Tryz.isAgg0
  z0 := Tryz.sizeOf0
  v0 := Tryz.zeroValue0
  t3 := Tryz.underlying3
  a3 := Tryz.isAgg3
  z3 := Tryz.sizeOf3
  v3 := Tryz.zeroValue3
  t4 := Tryz.underlying4
  a4 := Tryz.isAgg4
  z4 := Tryz.sizeOf4
  v4 := Tryz.zeroValue4
  t5 := Tryz.underlying5
  a5 := Tryz.isAgg5
  z5 := Tryz.sizeOf5
  v5 := Tryz.zeroValue5
  t9 := Tryz.underlying9
  a9 := Tryz.isAgg9
  z9 := Tryz.sizeOf9
  v9 := Tryz.zeroValue9
  t22 := Tryz.underlying27
  a22 := Tryz.isAgg27
  z22 := Tryz.sizeOf27
  v22 := Tryz.zeroValue27
  t25 := Tryz.underlying90
  a25 := Tryz.isAgg90
  z25 := Tryz.sizeOf90
  v25 := Tryz.zeroValue90
  t39 := Tryz.underlying125
  a39 := Tryz.isAgg125
  z39 := Tryz.sizeOf125
  v39 := Tryz.zeroValue125
  t45 := Tryz.underlying171
  a45 := Tryz.isAgg171
  z45 := Tryz.sizeOf171
  v45 := Tryz.zeroValue171
  t46 := Tryz.underlying172
  a46 := Tryz.isAgg172
  z46 := Tryz.sizeOf172
  v46 := Tryz.zeroValue172
  t50 := Tryz.underlying128
  a50 := Tryz.isAgg128
  z50 := Tryz.sizeOf128
  v50 := Tryz.zeroValue128
  t53 := Tryz.underlying136
  a53 := Tryz.isAgg136
  z53 := Tryz.sizeOf136
  v53 := Tryz.zeroValue136
  t55 := Tryz.underlying179
  a55 := Tryz.isAgg179
  z55 := Tryz.sizeOf179
  v55 := Tryz.zeroValue179
  t66 := Tryz.underlying195
  a66 := Tryz.isAgg195
  z66 := Tryz.sizeOf195
  v66 := Tryz.zeroValue195
  t70 := Tryz.underlying199
  a70 := Tryz.isAgg199
  z70 := Tryz.sizeOf199
  v70 := Tryz.zeroValue199
  t76 := Tryz.underlying219
  a76 := Tryz.isAgg219
  z76 := Tryz.sizeOf219
  v76 := Tryz.zeroValue219
  t77 := Tryz.underlying220
  a77 := Tryz.isAgg220
  z77 := Tryz.sizeOf220
  v77 := Tryz.zeroValue220 }
def Tryz.sortB_ren : Go.Shelf.Ren := ⟨fun | 14 => 119 | 20 => 140 | 21 => 141 | 22 => 142 | 23 => 143 | 24 => 144 | 25 => 145 | 26 => 146 | 27 => 147 | 46 => 172 | 47 => 132 | 48 => 133 | 49 => 173 | 50 => 174 | 15 => 68 | 57 => 204 | 28 => 107 | 29 => 108 | n => n, fun | 24 => 103 | 22 => 47 | 3 => 3 | 25 => 150 | 4 => 4 | 0 => 0 | 46 => 172 | 45 => 171 | 50 => 128 | 66 => 195 | 39 => 125 | 55 => 179 | 70 => 199 | 76 => 219 | 77 => 220 | 53 => 136 | 5 => 5 | 9 => 9 | n => n, fun | n => n⟩
theorem Tryz.sortB : Go.Proofs.SlLaysF0.n14 Tryz.prog Tryz.sortB_ren := {
  mixed := by kernel_rfl
  f14 := ⟨Tryz.f119.name, by decide, Tryz.func119.trans (congrArg some (by kernel_rfl))⟩
  f15 := Tryz.func68.trans (congrArg some (by kernel_rfl))
  f20 := ⟨Tryz.f140.name, by decide, Tryz.func140.trans (congrArg some (by kernel_rfl))⟩
  f21 := ⟨Tryz.f141.name, by decide, Tryz.func141.trans (congrArg some (by kernel_rfl))⟩
  f22 := ⟨Tryz.f142.name, by decide, Tryz.func142.trans (congrArg some (by kernel_rfl))⟩
  f23 := ⟨Tryz.f143.name, by decide, Tryz.func143.trans (congrArg some (by kernel_rfl))⟩
  f24 := ⟨Tryz.f144.name, by decide, Tryz.func144.trans (congrArg some (by kernel_rfl))⟩
  f25 := ⟨Tryz.f145.name, by decide, Tryz.func145.trans (congrArg some (by kernel_rfl))⟩
  f26 := ⟨Tryz.f146.name, by decide, Tryz.func146.trans (congrArg some (by kernel_rfl))⟩
  f27 := ⟨Tryz.f147.name, by decide, Tryz.func147.trans (congrArg some (by kernel_rfl))⟩
  f28 := Tryz.func107.trans (congrArg some (by kernel_rfl))
  f29 := Tryz.func108.trans (congrArg some (by kernel_rfl))
  f46 := ⟨Tryz.f172.name, by decide, Tryz.func172.trans (congrArg some (by kernel_rfl))⟩
  f47 := Tryz.func132.trans (congrArg some (by kernel_rfl))
  f48 := Tryz.func133.trans (congrArg some (by kernel_rfl))
  f49 := ⟨Tryz.f173.name, by decide, Tryz.func173.trans (congrArg some (by kernel_rfl))⟩
  f50 := ⟨Tryz.f174.name, by decide, Tryz.func174.trans (congrArg some (by kernel_rfl))⟩
  f57 := ⟨Tryz.f204.name, by decide, Tryz.func204.trans (congrArg some (by kernel_rfl))⟩
  t0 := Tryz.underlying0
  a0 := Tryz.isAgg0
  z0 := Tryz.sizeOf0
  v0 := Tryz.zeroValue0
  t3 := Tryz.underlying3
  a3 := Tryz.isAgg3
  z3 := Tryz.sizeOf3
  v3 := Tryz.zeroValue3
  t4 := Tryz.underlying4
  a4 := Tryz.isAgg4
  z4 := Tryz.sizeOf4
  v4 := Tryz.zeroValue4
  t5 := Tryz.underlying5
  a5 := Tryz.isAgg5
  z5 := Tryz.sizeOf5
  v5 := Tryz.zeroValue5
  t9 := Tryz.underlying9
  a9 := Tryz.isAgg9
  z9 := Tryz.sizeOf9
  v9 := Tryz.zeroValue9
  t22 := Tryz.underlying47
  a22 := Tryz.isAgg47
  z22 := Tryz.sizeOf47
  v22 := Tryz.zeroValue47
  t25 := Tryz.underlying150
  a25 := Tryz.isAgg150
  z25 := Tryz.sizeOf150
  v25 := Tryz.zeroValue150
  t39 := Tryz.underlying125
  a39 := Tryz.isAgg125
  z39 := Tryz.sizeOf125
  v39 := Tryz.zeroValue125
  t45 := Tryz.underlying171
  a45 := Tryz.isAgg171
  z45 := Tryz.sizeOf171
  v45 := Tryz.zeroValue171
  t46 := Tryz.underlying172
  a46 := Tryz.isAgg172
  z46 := Tryz.sizeOf172
  v46 := Tryz.zeroValue172
  t50 := Tryz.underlying128
  a50 := Tryz.isAgg128
  z50 := Tryz.sizeOf128
  v50 := Tryz.zeroValue128
  t53 := Tryz.underlying136
  a53 := Tryz.isAgg136
  z53 := Tryz.sizeOf136
  v53 := Tryz.zeroValue136
  t55 := Tryz.underlying179
  a55 := Tryz.isAgg179
  z55 := Tryz.sizeOf179
  v55 := Tryz.zeroValue179
  t66 := Tryz.underlying195
  a66 := Tryz.isAgg195
  z66 := Tryz.sizeOf195
  v66 := Tryz.zeroValue195
  t70 := Tryz.underlying199
  a70 := Tryz.isAgg199
  z70 := Tryz.sizeOf199
  v70 := Tryz.zeroValue199
  t76 := Tryz.underlying219
  a76 := Tryz.isAgg219
  z76 := Tryz.sizeOf219
  v76 := Tryz.zeroValue219
  t77 := Tryz.underlying220
  a77 := Tryz.isAgg220
  z77 := Tryz.sizeOf220
  v77 := Tryz.zeroValue220 }
def Tryz.bitsLen_ren : Go.Shelf.Ren := ⟨fun | 15 => 68 | 28 => 107 | 29 => 108 | n => n, fun | 39 => 125 | 3 => 3 | 53 => 136 | 55 => 179 | 4 => 4 | 5 => 5 | 9 => 9 | n => n, fun | n => n⟩
theorem Tryz.bitsLen : Go.Proofs.SlLaysF0.n15 Tryz.prog Tryz.bitsLen_ren := {
  mixed := by kernel_rfl
  f15 := Tryz.func68.trans (congrArg some (by kernel_rfl))
  f28 := Tryz.func107.trans (congrArg some (by kernel_rfl))
  f29 := Tryz.func108.trans (congrArg some (by kernel_rfl))
  t3 := Tryz.underlying3
  a3 := Tryz.isAgg3
  z3 := Tryz.sizeOf3
  v3 := Tryz.zeroValue3
  t4 := Tryz.underlying4
  a4 := Tryz.isAgg4
  z4 := Tryz.sizeOf4
  v4 := Tryz.zeroValue4
  t5 := Tryz.underlying5
  a5 := Tryz.isAgg5
  z5 := Tryz.sizeOf5
  v5 := Tryz.zeroValue5
  t9 := Tryz.underlying9
  a9 := Tryz.isAgg9
  z9 := Tryz.sizeOf9
  v9 := Tryz.zeroValue9
  t39 := Tryz.underlying125
  a39 := Tryz.isAgg125
  z39 := Tryz.sizeOf125
  v39 := Tryz.zeroValue125
  t53 := Tryz.underlying136
  a53 := Tryz.isAgg136
  z53 := Tryz.sizeOf136
  v53 := Tryz.zeroValue136
  t55 := Tryz.underlying179
  a55 := Tryz.isAgg179
  z55 := Tryz.sizeOf179
  v55 := Tryz.zeroValue179 }

end Go.Proofs

namespace Go.Proofs.YtgiiifadbnpfkaaGreatDoor
open Go Go.Hw
set_option linter.unusedSimpArgs false
set_option linter.unusedVariables false
structure AG where
  x : At
  a : Option Addr
  c : Nat
def agC (y : AG) : List Value := atC y.x y.a y.c
theorem agC_len (y : AG) : (agC y).length = 5 := rfl
theorem agC_one (y : AG) : ∀ v ∈ agC y, v.oneCell' = true := by simp [agC, atC, Value.oneCell']
abbrev argA (y : AG) : Hw.Item := rowT y.a y.c y.x.args
abbrev argsA (ys : List AG) : List Hw.Item := ys.map argA
abbrev rowAt (la : Option Addr) (lc : Nat) (ys : List AG) : Hw.Item := row 34 5 la ys.length lc (ys.flatMap agC)
def atsA (la : Option Addr) (lc : Nat) (ys : List AG) : List Hw.Item := rowAt la lc ys :: argsA ys
def sortA (l : List At) : List At := l.mergeSort fun a b => !decide (cmpA b a < 0)
theorem sortA_perm (l : List At) : (sortA l).Perm l := List.mergeSort_perm _ _
theorem sortA_sorted (l : List At) : (sortA l).Pairwise fun a b => ¬ cmpA b a < 0 := by
  have hO := cmpA_ok.swo
  have h := List.pairwise_mergeSort (le := fun a b => !decide (cmpA b a < 0)) (fun a b c h1 h2 => by
    simp only [Bool.not_eq_true', decide_eq_false_iff_not] at *
    have := hO.ntrans c b a (by simpa [Go.Proofs.ltOf] using h2) (by simpa [Go.Proofs.ltOf] using h1)
    simpa [Go.Proofs.ltOf] using this) (fun a b => by
    simp only [Bool.or_eq_true, Bool.not_eq_true', decide_eq_false_iff_not]
    have := cmpA_ok.anti a b
    omega) l
  refine h.imp ?_
  intro a b hab
  simpa using hab
theorem sortA_eq {ys rows : List At} (hp : ys.Perm rows) (hs : ys.Pairwise fun a b => ¬ cmpA b a < 0) : ys = sortA rows := by
  refine List.Perm.eq_of_pairwise (le := fun a b => ¬ cmpA b a < 0) (fun a b _ _ h1 h2 => ?_) hs (sortA_sorted rows) (hp.trans (sortA_perm _).symm)
  have := cmpA_ok.anti a b
  exact cmpA_ok.eq _ _ (by omega)
theorem T.apA : appB Tryz.prog 27 34 5 72 = true := by kernel_rfl
theorem RT.fr {w w' : World} {M : Nat → Prop} {a : Option Addr} {ts : List Tm} (h : RT w a ts) (hne : ∀ q, a = some q → 0 < ts.length → ¬ M q.block) (hf : Fr M w w') : RT w' a ts := by
  refine ⟨h.nil, fun q hq i t ht j v hv => ?_⟩
  have hl : 0 < ts.length := by have := (List.getElem?_eq_some_iff.1 ht).1; omega
  have h1 := h.at_ q hq i t ht j v hv
  have h2 := hf.keep q.block (h.lt hq hl) (hne q hq hl)
  unfold World.cell? at h1 ⊢
  rw [add_block, add_block] at h1 ⊢
  rw [h2]; exact h1
theorem selR_and {g : RelG} (ok : RelOK g) (parts : Int) : selR (rp g) (bits .and .i64 parts 7) [] [] = selR (rp g) parts [] [] := by
  unfold selR
  congr 2
  refine List.filter_congr fun q hq => ?_
  obtain ⟨e, he, rfl⟩ := List.mem_map.1 hq
  rw [inP_and parts (ok.part e he)]
theorem selR_mem {L : List (List Int × Nat)} {parts : Int} {l : List Int} (h : l ∈ selR L parts [] []) : ∃ q ∈ L, q.1 = l := by
  have h1 := (sortR_perm _).mem_iff.1 h
  obtain ⟨q, hq, rfl⟩ := List.mem_map.1 h1
  exact ⟨q, (List.mem_filter.1 hq).1, rfl⟩
theorem flat_perm {α β : Type} (f h : α → List β) : ∀ l : List α, (∀ x ∈ l, (f x).Perm (h x)) → (l.flatMap f).Perm (l.flatMap h)
  | [], _ => .refl _
  | x :: l, hh => by
    rw [List.flatMap_cons, List.flatMap_cons]
    exact (hh x (.head _)).append (flat_perm f h l fun y hy => hh y (.tail _ hy))
/-- What has been told of the relations that were visited. -/
def accF (g : BaseG) (parts : Int) (rs : List (Pd × RelG)) : List At := rs.flatMap fun x => (selR (rp x.2) parts [] []).map (atomOf g.vs x.1)
theorem accF_perm (g : BaseG) (parts : Int) : (accF g parts g.rs).Perm (selF (factsB g) parts) := by
  unfold accF selF factsB
  rw [List.filter_flatMap, List.map_flatMap]
  refine flat_perm _ _ _ fun x _ => ?_
  rw [List.filter_map, List.map_map]
  refine ((sortR_perm _).map _).trans (List.Perm.of_eq ?_)
  rw [List.map_map]
  have e : (fun p : List Int × Nat => inP parts p.2 && decide (fitsL p.1 [] [])) = fun p => inP parts p.2 := by
    funext p
    simp [fitsL]
  rw [e]
  rfl
theorem accF_len (g : BaseG) (parts : Int) (rs : List (Pd × RelG)) : (accF g parts rs).length = (rs.map fun x => (selR (rp x.2) parts [] []).length).sum := by
  unfold accF
  rw [List.length_flatMap]
  congr 1
  exact List.map_congr_left fun x _ => by rw [List.length_map]
theorem accF_snoc (g : BaseG) (parts : Int) (rs : List (Pd × RelG)) (x : Pd × RelG) : accF g parts (rs ++ [x]) = accF g parts rs ++ (selR (rp x.2) parts [] []).map (atomOf g.vs x.1) := by simp [accF]

theorem CmpOK.pull_swo {α β : Type} {f : β → β → Int} (hf : CmpOK f) (m : α → β) : Go.Sort.SWO (Go.Proofs.ltOf fun a b => f (m a) (m b)) :=
  ⟨fun a => hf.swo.irrefl (m a), fun a b c => hf.swo.trans (m a) (m b) (m c), fun a b c => hf.swo.ntrans (m a) (m b) (m c)⟩
theorem col_at2 {ys : List Col} {rows : List (List Int)} (h : ys.map Col.l = rows) {k : Nat} (hk : k < ys.length) : ∃ y, ys[k]? = some y ∧ y ∈ ys ∧ rows[k]? = some y.l :=
  ⟨ys[k], List.getElem?_eq_getElem hk, List.getElem_mem hk, by rw [← h, List.getElem?_map, List.getElem?_eq_getElem hk]; rfl⟩
theorem lst_addr2 {w0 ws w : World} {M I : Nat → Prop} {ow : List Hw.Item} {za : Option Addr} {zc : Nat} {zs : List Col} (hw : Sat w0 M I ws ow w) (hm : row 74 1 za zs.length zc (zs.map encC) ∈ ow) : 0 < zs.length → ∃ q, za = some ⟨q, 0, none⟩ := fun hp => row_addrK (hw.it _ hm) hp
theorem zmem {za : Option Addr} {zc : Nat} {zs : List Col} {z : Col} {A B : List Hw.Item} {i j k : Hw.Item} (h : z ∈ zs) : row 3 1 z.a z.l.length z.c (ints z.l) ∈ i :: j :: k :: (A ++ (B ++ lstA za zc zs)) := .tail _ (.tail _ (.tail _ (List.mem_append_right _ (List.mem_append_right _ (.tail _ (List.mem_flatMap.2 ⟨z, h, .head _⟩))))))
theorem sub_tab (g : BaseG) (X A B : List Hw.Item) : (tabA g).Sublist (X ++ (A ++ (baseA g ++ B))) := ((((List.sublist_append_left (tabA g) _).trans (List.sublist_append_left (baseA g) B)).trans (List.sublist_append_right A _))).trans (List.sublist_append_right X _)
theorem row_cellsφE {w : World} {T : TypeId} {size : Nat} {a : Option Addr} {q : Addr} {m cap : Nat} {xs : List Value} (hq : a = some q) (h : (row T size a m cap xs).φ w) : ∀ j u, xs[j]? = some u → w.cell? (q.add j) = some u := by
  subst hq
  intro j u hj
  have h1 : w.ownsRow 0 T size (.slice (some q) m cap) m xs := h
  have h2 := h1.cells (g := q.block) rfl j u hj
  rcases h1.2 with ⟨hv, _⟩ | ⟨g, c, cur, hv, _⟩
  · cases hv
  · simp only [Value.slice.injEq, Option.some.injEq] at hv
    rw [hv.1] at h2 ⊢
    exact h2
theorem row_cellsE {w0 ws w : World} {M I : Nat → Prop} {ow : List Hw.Item} (h : Sat w0 M I ws ow w) {T : TypeId} {size : Nat} {a : Option Addr} {q : Addr} {m cap : Nat} {xs : List Value} (hq : a = some q) (hm : row T size a m cap xs ∈ ow) : ∀ j u, xs[j]? = some u → w.cell? (q.add j) = some u :=
  row_cellsφE hq (h.it _ hm)
theorem row_cap {w : World} {T c m : Nat} {a : Option Addr} {xs : List Value} (h : (row T 1 a m c xs).φ w) : m ≤ c := by
  have h1 : w.ownsRow 0 T 1 (.slice a m c) m xs := h
  rcases h1.2 with ⟨hv, h0⟩ | ⟨g, cc, cur, hv, _, _, hmc, _⟩
  · omega
  · simp only [Value.slice.injEq] at hv; omega

set_option maxRecDepth 10000 in
set_option maxHeartbeats 2000000 in
theorem bfacts_calls (g : BaseG) (ok : BaseOK g) (parts : Int) (w : World) (hA : Holds (baseA g) w) : Calls Tryz.prog 12 #[ptr g.p, .int .i64 parts] w fun e w' => ∃ g1 la lc ys, e = .returned (.slice la ys.length lc) ∧ ys.map AG.x = sortA (selF (factsB g) parts) ∧ SameB g g1 ∧ Turns (baseA g) (baseA g1 ++ atsA la lc ys) w w' := by
  refine enterA hA (args := [ptr g.p, .int .i64 parts]) Tryz.func12 rfl Tryz.ntmps12 rfl rfl ?_
  refine WC.seq ?_
  refine WC.region ?_
  refine WL.val (OV.assign rfl) rfl ?_
  refine WL.nil ?_
  refine WX.next ?_
  refine WC.seq ?_
  refine WC.region ?_
  refine WL.val (OV.assign rfl) rfl ?_
  refine WL.nil ?_
  refine WX.next ?_
  refine WC.seq ?_
  refine WC.seq ?_
  refine WC.region ?_
  refine WL.val (OV.move rfl) rfl ?_
  refine WL.val (OV.nilCheck rfl) rfl ?_
  first
  | (refine WL.val (OV.fieldAddr0 (off := 2) rfl T.u84 rfl) rfl ?_)
  | (refine WL.val (OV.fieldAddr (off := 2) rfl T.u84 rfl) rfl ?_)
  refine WL.val (OV.load1 (v := .map (some g.rb)) rfl T.u82 rfl (fun _ hw => (cell_at (hw.it _ (.head _)) (o := 2) rfl).1)) rfl ?_
  refine WL.range T.u82 rfl (fun _ hw => own_map (kv := relKV g.rs) (List.mem_append_right _ (.head _)) _ hw) rfl ?_
  intro it14
  refine WL.nil ?_
  refine WX.next ?_
  refine WC.block ?_
  refine WC.weak (S' := Sat w (DD (baseA g)) (fun b => b < w.heap.size ∧ ¬ DD (baseA g) b) w (own it14 (iterK g.rb (relKV g.rs).length []) :: rowAt none 0 [] :: (baseA g ++ argsA []))) (fun w' hw => by
    have h2 := (hw.rowNil 34 5).pick [[row 34 5 none 0 0 []], [own it14 (iterK g.rb (relKV g.rs).length [])], baseA g] [1, 0, 2] 3 rfl (by decide) (by decide)
    exact h2.perm (List.Perm.of_eq (by simp [cat, argsA, rowAt]))) ?_
  refine WC.loop5 (fun (vis : List Nat) (la : Option Addr) (lc : Nat) (ys : List AG) (g1 : BaseG) => [(0, ptr g.p), (1, .int .i64 parts), (5, .slice la ys.length lc), (14, .pointer (some ⟨it14, 0, none⟩))])
      (fun vis la lc ys g1 w' => (Vs g.rs vis ∧ SameB g g1 ∧ ys.map AG.x = accF g parts (visL g.rs vis) ∧ (∀ y ∈ ys, y.x.args.length ≤ 8) ∧ ys.length ≤ 1099511627776) ∧ Sat w (DD (baseA g)) (fun b => b < w.heap.size ∧ ¬ DD (baseA g) b) w (own it14 (iterK g.rb (relKV g.rs).length vis) :: rowAt la lc ys :: (baseA g1 ++ argsA ys)) w') (fun vis _ _ _ _ => unseen (relKV g.rs).length vis) [] none 0 [] g ⟨rfl, rfl, rfl, rfl, trivial⟩ (fun w' hw => ⟨⟨Vs.start _, SameB.refl ok, rfl, (fun y hy => by cases hy), by decide⟩, hw⟩) ?_
  intro vis la lc ys g1
  refine WC.pure (fun hi => ?_)
  obtain ⟨hvs, hsame, hys, hyargs, hyl⟩ := hi
  refine WC.seq ?_
  refine WC.region ?_
  refine WL.next (enc := pdV) (kv := relKV g.rs) rfl rfl (fun _ hw => by rw [← hsame.kv, ← hsame.rb]; exact own_map (.tail _ (.tail _ (List.mem_append_left _ (List.mem_append_right _ (.head _))))) _ hw) ?_ ?_
  · intro hall
    refine WL.val (OV.extract rfl rfl) rfl ?_
    refine WL.nil ?_
    refine WX.next ?_
    refine WC.seq ?_
    refine WC.condF rfl ?_
    refine WC.exit ?_
    refine WX.then_exit ?_
    refine WX.then_exit ?_
    refine WX.block_hit ?_
    refine WX.next ?_
    refine WC.seq ?_
    refine WC.region ?_
    refine WL.val (OV.move rfl) rfl ?_
    have hal : ∀ i, i < g.rs.length → i ∈ vis := fun i hi => hall i (by rw [relKV_len]; exact hi)
    have hpm : (ys.map AG.x).Perm (selF (factsB g) parts) := by
      rw [hys]
      refine List.Perm.trans ?_ (accF_perm g parts)
      unfold accF
      exact (hvs.all hal).flatMap_right _
    refine WL.focus (ow' := rowAt la lc ys :: (argsA ys ++ (own it14 (iterK g.rb (relKV g.rs).length vis) :: baseA g1))) (by exact perm_cat [[own it14 (iterK g.rb (relKV g.rs).length vis)], [rowAt la lc ys], baseA g1, argsA ys] [1, 3, 0, 2] (by decide) rfl) ?_
    obtain ⟨us, hus⟩ : ∃ us : List {y : AG // y ∈ ys}, us.map (·.1) = ys := ⟨_, List.attach_map_subtype_val ys⟩
    have hul : us.length = ys.length := by have h := congrArg List.length hus; rwa [List.length_map] at h
    have huf : us.flatMap (fun z => agC z.1) = ys.flatMap agC := by have h := congrArg (List.flatMap agC) hus; rwa [List.flatMap_map] at h
    refine WL.callTA (ι := List {y : AG // y ∈ ys}) (vs := [.slice la ys.length lc, .func (.func 38) #[] #[]]) (vv := fun _ => .tuple #[]) (pp := fun vs => vs.Perm us ∧ vs.Pairwise (fun x y => Go.Proofs.ltOf (fun a b : {y : AG // y ∈ ys} => cmpA a.1.x b.1.x) y x = false)) [rowAt la lc ys] (AA := fun vs => [rowAt la lc (vs.map (·.1))]) rfl (by kernel_rfl) rfl rfl (fun w' hw' hH => ?_) ?_
    · have hcon := sortFuncK_calls (P := Tryz.prog) Tryz.sortA (T := 34) (c := lc) 5 (by decide) (by kernel_rfl) T.z34 (fun z : {y : AG // y ∈ ys} => agC z.1) (fun _ => rfl) (fun z => agC_one z.1) (fun a b => cmpA a.1.x b.1.x) (cmpA_ok.pull_swo fun z : {y : AG // y ∈ ys} => z.1.x) 38 (by kernel_rfl) la us w' (by rw [hul, huf]; exact hH) ?_ (by omega)
      · rw [hul, huf] at hcon
        refine hcon.mono ?_
        rintro en w'' ⟨h1, vs, h2, h3, h4⟩
        refine ⟨vs, h1, ⟨h2, h3⟩, ?_⟩
        have e1 : (vs.map (·.1)).length = vs.length := List.length_map ..
        have e2 : (vs.map (·.1)).flatMap agC = vs.flatMap fun z => agC z.1 := by rw [List.flatMap_map]
        show Turns _ [row _ _ la (vs.map (·.1)).length lc ((vs.map (·.1)).flatMap agC)] _ _
        rw [e1, e2]; exact h4
      · intro q hq w2 hf y1 y2
        have hrt : ∀ y : {y : AG // y ∈ ys}, RT w2 y.1.a y.1.x.args := fun y => by
          have hm : argA y.1 ∈ rowAt la lc ys :: (argsA ys ++ (own it14 (iterK g.rb (relKV g.rs).length vis) :: baseA g1)) := .tail _ (List.mem_append_left _ (List.mem_map.2 ⟨y.1, y.2, rfl⟩))
          refine RT.fr (RT.of_row (c := y.1.c) rfl hw' hm) (fun q2 hq2 _ he => ?_) hf
          exact (List.pairwise_cons.1 hw'.disj).1 (argA y.1) (List.mem_append_right _ (List.mem_append_left _ (List.mem_map.2 ⟨y.1, y.2, rfl⟩))) q.block ⟨q, hq, rfl⟩ ⟨q2, hq2, he⟩
        exact cmpA_calls y1.1.x y2.1.x y1.1.a y2.1.a y1.1.c y2.1.c (by have := hyargs y1.1 y1.2; omega) (by have := hyargs y2.1 y2.2; omega) w2 (hrt y1) (hrt y2)
    rintro vs hpp
    obtain ⟨hvp, hvsort⟩ : vs.Perm us ∧ vs.Pairwise (fun x y => Go.Proofs.ltOf (fun a b : {y : AG // y ∈ ys} => cmpA a.1.x b.1.x) y x = false) := hpp
    obtain ⟨ts, hts⟩ : ∃ ts, ts = vs.map (·.1) := ⟨_, rfl⟩
    have htp : ts.Perm ys := by have h := hvp.map (·.1); rwa [hus, ← hts] at h
    have htl : ts.length = ys.length := htp.length_eq
    have htx : ts.map AG.x = sortA (selF (factsB g) parts) := by
      refine sortA_eq ((htp.map _).trans hpm) ?_
      rw [hts, List.map_map, List.pairwise_map]
      refine hvsort.imp ?_
      intro a b hab
      simpa [Go.Proofs.ltOf] using hab
    rw [← hts]
    refine WL.nil ?_
    refine WX.next ?_
    refine WC.seq ?_
    refine WC.region ?_
    refine WL.val (OV.move rfl) rfl ?_
    refine WL.val (OV.assign rfl) rfl ?_
    refine WL.nil ?_
    refine WX.next ?_
    refine WC.ret ?_
    refine WX.ret1 rfl rfl rfl (fun w' hw => ⟨g1, la, lc, ts, by rw [htl], htx, hsame, ?_⟩)
    have h2 := (show Sat w (DD (baseA g)) (fun b => b < w.heap.size ∧ ¬ DD (baseA g) b) w ([rowAt la lc ts] ++ (argsA ys ++ ([own it14 (iterK g.rb (relKV g.rs).length vis)] ++ baseA g1))) w' from hw).pick [[rowAt la lc ts], argsA ys, [own it14 (iterK g.rb (relKV g.rs).length vis)], baseA g1] [3, 0, 1] 4 rfl (by decide) (by decide)
    refine Hw.Sat.turned (h2.perm (ow' := baseA g1 ++ atsA la lc ts) ?_)
    exact List.Perm.append_left _ (List.Perm.cons _ (htp.map _))
  · intro i q hi2 hv
    obtain ⟨x, hx, hxm, rfl, hil⟩ := relKV_get hi2
    refine WL.val (OV.extract rfl rfl) rfl ?_
    refine WL.nil ?_
    refine WX.next ?_
    refine WC.seq ?_
    refine WC.condT rfl ?_
    refine WC.skip ?_
    refine WX.next ?_
    refine WC.block ?_
    refine WC.seq ?_
    refine WC.region ?_
    refine WL.val (OV.entry (enc := pdV) (kv := relKV g.rs) (i := i) rfl (fun _ hw => hw.it _ (.head _)) (fun _ hw => by rw [← hsame.kv, ← hsame.rb]; exact own_map (.tail _ (.tail _ (List.mem_append_left _ (List.mem_append_right _ (.head _))))) _ hw) hi2) rfl ?_
    refine WL.val (OV.extract rfl rfl) rfl ?_
    refine WL.val (OV.extract rfl rfl) rfl ?_
    refine WL.alloc T.zr43 rfl ?_
    intro b6
    refine WL.storeAll (vs := pdC x.1) rfl rfl rfl T.z43 rfl ?_
    refine WL.val (OV.assign rfl) rfl ?_
    refine WL.nil ?_
    refine WX.next ?_
    refine WC.seq ?_
    refine WC.region ?_
    refine WL.val (OV.move rfl) rfl ?_
    refine WL.val (OV.move rfl) rfl ?_
    refine WL.val (OV.and rfl rfl) rfl ?_
    obtain ⟨x', hx', hx1, hxe, hxr, hxw, okx⟩ := hsame.at_ i x hx
    obtain ⟨r1, r2, hs1, _⟩ := split_get hx'
    refine WL.focus (ow' := own b6 (.cells (pdC x.1).toArray 43 (0, 0)) :: own it14 (iterK g.rb (relKV g.rs).length (vis ++ [i])) :: rowAt la lc ys :: ((tabA g1 ++ (rbA g1 :: (relsA r1 ++ (relA x'.2 ++ relsA r2)))) ++ argsA ys)) (List.Perm.of_eq (by unfold baseA; rw [hs1, show x' = (x'.1, x'.2) from rfl, relsA_mid])) ?_
    refine WL.focus (ow' := relA x'.2 ++ (([own b6 (.cells (pdC x.1).toArray 43 (0, 0)), own it14 (iterK g.rb (relKV g.rs).length (vis ++ [i])), rowAt la lc ys] ++ (tabA g1 ++ [rbA g1])) ++ (relsA r1 ++ (relsA r2 ++ argsA ys)))) (by
      refine List.Perm.trans ?_ (List.Perm.of_eq (show [own b6 (.cells (pdC x.1).toArray 43 (0, 0)), own it14 (iterK g.rb (relKV g.rs).length (vis ++ [i])), rowAt la lc ys] ++ (tabA g1 ++ ([rbA g1] ++ (relsA r1 ++ (relA x'.2 ++ (relsA r2 ++ argsA ys))))) = _ by simp))
      exact (List.Perm.of_eq (by simp [cat])).trans (perm_cat [[own b6 (.cells (pdC x.1).toArray 43 (0, 0)), own it14 (iterK g.rb (relKV g.rs).length (vis ++ [i])), rowAt la lc ys], tabA g1, [rbA g1], relsA r1, relA x'.2, relsA r2, argsA ys] [4, 0, 1, 2, 3, 5, 6] (by decide) rfl)) ?_
    refine WL.callTA (ι := RelG × Option Addr × Nat × List Col) (vs := [ptr x'.2.r, .int .i64 (bits .and .i64 parts 7)]) (vv := fun z => .slice z.2.1 z.2.2.2.length z.2.2.1) (pp := fun z => z.2.2.2.map Col.l = selR (rp x'.2) (bits .and .i64 parts 7) [] [] ∧ RelOK z.1 ∧ RelLe x'.2 z.1 ∧ z.1.es = x'.2.es) (relA x'.2) (AA := fun z => relA z.1 ++ lstA z.2.1 z.2.2.1 z.2.2.2) rfl (by kernel_rfl) (by rw [hxr]; rfl) rfl (fun w' hw' hH => (rows_calls x'.2 okx (bits .and .i64 parts 7) w' hH).mono (fun en w'' ⟨g', la, lc, ys, h1, h2, h3, h4, h5, h6⟩ => ⟨(g', la, lc, ys), h1, ⟨h2, h3, h4, h5⟩, h6⟩)) ?_
    rintro ⟨gr, za, zc, zs⟩ hpp
    obtain ⟨hzs0, okr, ler, esr⟩ : zs.map Col.l = selR (rp x'.2) (bits .and .i64 parts 7) [] [] ∧ RelOK gr ∧ RelLe x'.2 gr ∧ gr.es = x'.2.es := hpp
    have hzs : zs.map Col.l = selR (rp x.2) parts [] [] := by rw [hzs0, selR_and okx, rp, hxe, rp]
    have hzn : zs.length ≤ x.2.es.length := by
      have h1 := congrArg List.length hzs
      rw [List.length_map] at h1
      have h2 := selR_len (rp x.2) parts [] []
      rw [rp_len] at h2; omega
    obtain ⟨g2, hg2⟩ : ∃ g2 : BaseG, g2 = { g1 with rs := r1 ++ (x'.1, gr) :: r2 } := ⟨_, rfl⟩
    have hsame2 : SameB g g2 := by rw [hg2]; exact hsame.setRel hs1 esr ler.r ler.width okr
    have hp2 : g2.p = g.p := hsame2.p
    have hbnd : (accF g parts (visL g.rs vis)).length + zs.length ≤ 1099511627776 := by
      have h1 := vis_le (f := fun x : Pd × RelG => (selR (rp x.2) parts [] []).length) (f2 := fun x => x.2.es.length) (fun y => by have := selR_len (rp y.2) parts [] []; rw [rp_len] at this; exact this) (hvs.step hil hv)
      rw [visL_snoc hx, ← accF_len g, accF_snoc, List.length_append, List.length_map, ← hzs, List.length_map] at h1
      have := ok.fl
      omega
    refine WL.weak (S' := Sat w (DD (baseA g)) (fun b => b < w.heap.size ∧ ¬ DD (baseA g) b) w (own b6 (.cells (pdC x.1).toArray 43 (0, 0)) :: own it14 (iterK g.rb (relKV g.rs).length (vis ++ [i])) :: rowAt la lc ys :: (argsA ys ++ (baseA g2 ++ lstA za zc zs)))) (fun w' hw => ?_) ?_
    · have h2 := hw.perm (ow' := relA gr ++ (lstA za zc zs ++ (([own b6 (.cells (pdC x.1).toArray 43 (0, 0)), own it14 (iterK g.rb (relKV g.rs).length (vis ++ [i])), rowAt la lc ys] ++ (tabA g1 ++ [rbA g1])) ++ (relsA r1 ++ (relsA r2 ++ argsA ys))))) (List.Perm.of_eq (List.append_assoc _ _ _).symm)
      have h3 := h2.perm (ow' := relA gr ++ (lstA za zc zs ++ ([own b6 (.cells (pdC x.1).toArray 43 (0, 0)), own it14 (iterK g.rb (relKV g.rs).length (vis ++ [i])), rowAt la lc ys] ++ (tabA g1 ++ ([rbA g1] ++ (relsA r1 ++ (relsA r2 ++ argsA ys))))))) (List.Perm.of_eq (by simp))
      have h4 := h3.pick [relA gr, lstA za zc zs, [own b6 (.cells (pdC x.1).toArray 43 (0, 0)), own it14 (iterK g.rb (relKV g.rs).length (vis ++ [i])), rowAt la lc ys], tabA g1, [rbA g1], relsA r1, relsA r2, argsA ys] [2, 7, 3, 4, 5, 0, 6, 1] 8 rfl (by decide) (by decide)
      refine h4.perm (List.Perm.of_eq ?_)
      have hk : relKV g1.rs = relKV (r1 ++ (x'.1, gr) :: r2) := by rw [hs1]; simp [relKV, ler.r]
      rw [hg2]
      unfold baseA rbA
      simp only [relsA_mid, ← hk]
      simp [cat, tabA, nbA]
      rfl
    first
    | (refine WL.val (OV.lenSlice rfl T.u86) rfl ?_)
    | (refine WL.val (OV.lenStr rfl T.u86) rfl ?_)
    refine WL.val (OV.move rfl) rfl ?_
    refine WL.nil ?_
    refine WX.next ?_
    refine WC.block ?_
    refine WC.know (fun w' hw => (lst_addr2 (za := za) (zc := zc) (zs := zs) hw (.tail _ (.tail _ (.tail _ (List.mem_append_right _ (List.mem_append_right _ (.head _)))))) : 0 < zs.length → ∃ q, za = some ⟨q, 0, none⟩)) (fun hza => ?_)
    refine WC.loop4 (fun (k : Nat) (la2 : Option Addr) (lc2 : Nat) (ys2 : List AG) => [(0, ptr g.p), (1, .int .i64 parts), (5, .slice la2 ys2.length lc2), (6, .pointer (some ⟨b6, 0, none⟩)), (14, .pointer (some ⟨it14, 0, none⟩)), (23, .slice za zs.length zc), (24, .int .i64 (zs.length : Int)), (25, .int .i64 (k : Int))])
        (fun k la2 lc2 ys2 w' => (k ≤ zs.length ∧ ys2.length = ys.length + k ∧ ys2.map AG.x = accF g parts (visL g.rs vis) ++ ((selR (rp x.2) parts [] []).take k).map (atomOf g.vs x.1) ∧ (∀ y ∈ ys2, y.x.args.length ≤ 8)) ∧ Sat w (DD (baseA g)) (fun b => b < w.heap.size ∧ ¬ DD (baseA g) b) w (own b6 (.cells (pdC x.1).toArray 43 (0, 0)) :: own it14 (iterK g.rb (relKV g.rs).length (vis ++ [i])) :: rowAt la2 lc2 ys2 :: (argsA ys2 ++ (baseA g2 ++ lstA za zc zs))) w')
        (fun k _ _ _ => zs.length - k) 0 la lc ys ⟨rfl, rfl, rfl, rfl, rfl, rfl, rfl, rfl, trivial⟩ (fun w' hw => ⟨⟨by omega, rfl, by simp [hys], hyargs⟩, hw⟩) ?_
    have hyn : ys.length = (accF g parts (visL g.rs vis)).length := by rw [← hys, List.length_map]
    intro k la2 lc2 ys2
    refine WC.pure (fun hi => ?_)
    obtain ⟨hk, hyl2, hys2, hya2⟩ := hi
    refine WC.seq ?_
    refine WC.region ?_
    refine WL.val (OV.lss rfl rfl) rfl ?_
    refine WL.nil ?_
    refine WX.next ?_
    refine WC.seq ?_
    refine WC.cond rfl (fun c26 => ?_) (fun c26 => ?_)
    · try simp only [decide_eq_true_eq, decide_eq_false_iff_not, Bool.not_eq_true', Bool.not_eq_false'] at c26
      refine WC.skip ?_
      refine WX.next ?_
      refine WC.seq ?_
      refine WC.block ?_
      refine WC.seq ?_
      refine WC.region ?_
      obtain ⟨z, hz, hzm, hzl⟩ := col_at2 hzs (k := k) (by omega)
      obtain ⟨zq, hzq⟩ := hza (by omega)
      obtain ⟨zr, hzr, hzrl⟩ := selR_mem (List.mem_of_getElem? hzl)
      obtain ⟨hrl, hrin⟩ := rel_row ok hxm hzr
      rw [hzrl] at hrl hrin
      have har := ok.ar x hxm
      refine WL.val (OV.indexSliceA (a := ⟨zq, 0, none⟩) (i := k) (show _ = some (Value.slice (some ⟨zq, 0, none⟩) zs.length zc) by rw [← hzq]; rfl) rfl T.u86 T.z74 (by omega)) rfl ?_
      refine WL.val (OV.load1 (v := encC z) rfl T.u74 rfl (fun _ hw => row_cellsE hw hzq (.tail _ (.tail _ (.tail _ (List.mem_append_right _ (List.mem_append_right _ (.head _)))))) k _ (by rw [List.getElem?_map, hz]; rfl))) rfl ?_
      refine WL.val (OV.assign rfl) rfl ?_
      refine WL.nil ?_
      refine WX.next ?_
      refine WC.region ?_
      refine WL.val (OV.move rfl) rfl ?_
      refine WL.val (OV.move rfl) rfl ?_
      refine WL.val (OV.loadN (cs := pdC x.1) rfl T.u43 rfl T.z43 (fun _ hw j v hj => by rw [add_off, Nat.zero_add]; exact own_cells hw (.head _) j v hj)) rfl ?_
      refine WL.val (OV.move rfl) rfl ?_
      refine WL.callTA (ι := Option Addr × Nat) (vs := [ptr g.p, pdV x.1, encC z]) (vv := fun q => atV (atomOf g.vs x.1 z.l) q.1 q.2) (pp := fun _ => True) [] (AA := fun q => [rowT q.1 q.2 (atomOf g.vs x.1 z.l).args]) rfl (by kernel_rfl) rfl rfl (fun w' hw' _ => (by
        have h5 := bfact_calls g2 (hsame2.ok ok) x.1 z.l z.a z.c (by omega) (by omega) (row_cap (hw'.it _ (zmem hzm))) (by rw [hsame2.vs]; exact hrin) w' (RI.of_row (c := z.c) hw' (zmem hzm)) (Hw.Sat.part (sub_tab g2 [own b6 (.cells (pdC x.1).toArray 43 (0, 0)), own it14 (iterK g.rb (relKV g.rs).length (vis ++ [i])), rowAt la2 lc2 ys2] (argsA ys2) (lstA za zc zs)) hw').holdsAll
        rw [hp2, hsame2.vs] at h5
        exact h5.mono (fun en w'' ⟨la, lc, h1, h2⟩ => ⟨(la, lc), h1, trivial, h2⟩))) ?_
      rintro ⟨fa, fc⟩ _
      refine WL.buildSliceA (cs := agC ⟨atomOf g.vs x.1 z.l, fa, fc⟩) T.u27 T.z34 T.zr34 rfl rfl (by omega) (by omega) rfl ?_
      intro b34
      refine WL.focus (ow' := rowAt la2 lc2 ys2 :: own b34 (.cells (agC ⟨atomOf g.vs x.1 z.l, fa, fc⟩).toArray 34 (0, 0)) :: rowT fa fc (atomOf g.vs x.1 z.l).args :: own b6 (.cells (pdC x.1).toArray 43 (0, 0)) :: own it14 (iterK g.rb (relKV g.rs).length (vis ++ [i])) :: (argsA ys2 ++ (baseA g2 ++ lstA za zc zs))) (perm_pick [_, _, _, _, _] [4, 0, 1, 2, 3] (by decide) rfl) ?_
      refine WL.append (news := agC ⟨atomOf g.vs x.1 z.l, fa, fc⟩) rfl rfl T.apA (fun _ _ => own_srcN (.tail _ (.head _)) rfl) (agC_one _) ⟨by omega, by unfold maxLen; omega⟩ rfl ?_
      intro a35 c35
      refine WL.val (OV.assign rfl) rfl ?_
      refine WL.nil ?_
      refine WX.block_normal ?_
      refine WX.next ?_
      refine WC.region ?_
      refine WL.val (OV.addN (j := 1) rfl rfl (by omega)) rfl ?_
      refine WL.val (OV.move rfl) rfl ?_
      refine WL.nil ?_
      have el : ys2.length + 1 = (ys2 ++ [(⟨atomOf g.vs x.1 z.l, fa, fc⟩ : AG)]).length := by simp
      have ef : ys2.flatMap agC ++ agC ⟨atomOf g.vs x.1 z.l, fa, fc⟩ = (ys2 ++ [(⟨atomOf g.vs x.1 z.l, fa, fc⟩ : AG)]).flatMap agC := by simp
      have em : argsA (ys2 ++ [(⟨atomOf g.vs x.1 z.l, fa, fc⟩ : AG)]) = argsA ys2 ++ [rowT fa fc (atomOf g.vs x.1 z.l).args] := by simp [argsA]
      exact WX.round4 (k + 1) a35 c35 (ys2 ++ [(⟨atomOf g.vs x.1 z.l, fa, fc⟩ : AG)]) ⟨rfl, rfl, by rw [← el]; rfl, rfl, rfl, rfl, rfl, rfl, trivial⟩ (fun w' hw => ⟨⟨by omega, by simp [hyl2]; omega, by rw [List.map_append, hys2, List.take_add_one, hzl]; simp, fun y hy => by
        rcases List.mem_append.1 hy with h | h
        · exact hya2 y h
        · simp only [List.mem_singleton] at h
          subst h
          simp [atomOf, hrl]; exact har⟩, by
        rw [el, ef] at hw
        rw [em]
        exact (hw.pick [[rowAt a35 c35 (ys2 ++ [(⟨atomOf g.vs x.1 z.l, fa, fc⟩ : AG)])], [own b34 (.cells (agC ⟨atomOf g.vs x.1 z.l, fa, fc⟩).toArray 34 (0, 0))], [rowT fa fc (atomOf g.vs x.1 z.l).args], [own b6 (.cells (pdC x.1).toArray 43 (0, 0))], [own it14 (iterK g.rb (relKV g.rs).length (vis ++ [i]))], argsA ys2, baseA g2 ++ lstA za zc zs] [3, 4, 0, 5, 2, 6] 7 rfl (by decide) (by decide)).perm (List.Perm.of_eq (by simp [cat]))⟩) (by show zs.length - (k + 1) < zs.length - k; omega)
    · try simp only [decide_eq_true_eq, decide_eq_false_iff_not, Bool.not_eq_true', Bool.not_eq_false'] at c26
      refine WC.exit ?_
      refine WX.then_exit ?_
      refine WX.then_exit ?_
      refine WX.block_hit ?_
      refine WX.block_normal ?_
      have hk : zs.length ≤ k := by omega
      exact WX.round5 (vis ++ [i]) la2 lc2 ys2 g2 ⟨rfl, rfl, rfl, rfl, trivial⟩ (fun w' hw => ⟨⟨hvs.step hil hv, hsame2, by rw [visL_snoc hx, accF_snoc, hys2, ← hzs, List.take_of_length_le (by rw [List.length_map]; omega)], hya2, by omega⟩, hw.pick [[own b6 (.cells (pdC x.1).toArray 43 (0, 0))], [own it14 (iterK g.rb (relKV g.rs).length (vis ++ [i]))], [rowAt la2 lc2 ys2], argsA ys2, baseA g2, lstA za zc zs] [1, 2, 4, 3] 6 rfl (by decide) (by decide)⟩) (unseen_lt (by rw [relKV_len]; exact hil) hv)

end Go.Proofs.YtgiiifadbnpfkaaGreatDoor

namespace Go.Proofs.YtgiiifadbnpfkaaGreatDoor
open Go Go.Hw
set_option linter.unusedSimpArgs false
set_option linter.unusedVariables false
abbrev rowPd (la : Option Addr) (lc : Nat) (ys : List Pd) : Hw.Item := row 43 2 la ys.length lc (ys.flatMap pdC)
end Go.Proofs.YtgiiifadbnpfkaaGreatDoor
